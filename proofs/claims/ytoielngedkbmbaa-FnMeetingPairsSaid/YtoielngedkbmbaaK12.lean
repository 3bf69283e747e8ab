/- Lines. -/
import Derived.Test.YtoielngedkbmbaaK11
import Derived.Test.YtoielngedkbmbaaK3
set_option linter.unusedSimpArgs false
set_option linter.unusedVariables false
set_option maxRecDepth 100000
namespace Go.Proofs.Ytoielngedkbmbaa
open Go.Sym
def okL (a b c : Int) : Bool := (decide (0 ≤ a) && decide (a ≤ 2000)) && (decide (-2000 ≤ b) && decide (b ≤ 2000)) && (decide (-4000000 ≤ c) && decide (c ≤ 4000000)) && ((decide (0 < a) || decide (0 < b)) && decide (gcdI (gcdI a b) c = 1))
def ltS (dX dY : Int) : Bool := decide (dY < 0) || (decide (dY = 0) && decide (0 < dX))
def ltA (dX dY : Int) : Int := if ltS dX dY = true then -(dY / gcdI dX dY) else dY / gcdI dX dY
def ltB (dX dY : Int) : Int := if ltS dX dY = true then dX / gcdI dX dY else -(dX / gcdI dX dY)
def sideL (a b c x y : Int) : Int := if okL a b c && okP x y then sgn (a * x + b * y - c) else 2
theorem gcdI_abs_right (a b : Int) : gcdI a (absI b) = gcdI a b := by unfold gcdI absI; simp [Int.gcd]
theorem gcdI_comm (a b : Int) : gcdI a b = gcdI b a := by unfold gcdI; rw [Int.gcd_comm]
theorem gcdI_neg_left (a b : Int) : gcdI (0 - a) b = gcdI a b := by unfold gcdI; simp [Int.gcd]
theorem gcdI_neg_r (a b : Int) : gcdI a (0 - b) = gcdI a b := by unfold gcdI; simp [Int.gcd]
theorem gcdI_of_dvd {g c : Int} (hg : 0 ≤ g) (h : g ∣ c) : gcdI g c = g := by
  unfold gcdI
  have : Int.gcd g c = g.natAbs := Nat.gcd_eq_left (Int.natAbs_dvd_natAbs.2 h)
  rw [this]; omega
theorem i_Line_valid (lA : Int) (lB : Int) (lC : Int) : RunsTo Try.prog 83 [(.agg [(.int .i64 (.v fun _ => lA) (-20000000) 20000000), (.int .i64 (.v fun _ => lB) (-20000000) 20000000), (.int .i64 (.v fun _ => lC) (-20000000) 20000000)])] [] (.bool (.v fun _ => okL lA lB lC)) [] := by
  refine RunsTo.go env Try.func83 rfl Try.call83 rfl rfl (fun _ _ => (.call (c_i_within lA 0 2000) (.ite .ret (.call (c_i_within lB (-2000) 2000) (.ite .ret (.call (c_i_within lC (-4000000) 4000000) (.ite .ret (.ite (.call (c_i_divisor lA lB) (.call (c_i_divisor (gcdI lA lB) lC) .ret)) (.ite (.call (c_i_divisor lA lB) (.call (c_i_divisor (gcdI lA lB) lC) .ret)) .ret))))))))) (G := (((-20000000) ≤ lA ∧ lA ≤ 20000000) ∧ (((-20000000) ≤ lB ∧ lB ≤ 20000000) ∧ ((-20000000) ≤ lC ∧ lC ≤ 20000000))) → (True) → (((lA = lA) ∧ (((0 : Int) = 0) ∧ ((2000 : Int) = 2000))) ∧ ((((decide (0 ≤ lA) && decide (lA ≤ 2000)) = false) → ((okL lA lB lC) = false)) ∧ (((decide (0 ≤ lA) && decide (lA ≤ 2000)) = true) → (((lB = lB) ∧ ((((-2000) : Int) = (-2000)) ∧ ((2000 : Int) = 2000))) ∧ ((((decide ((-2000) ≤ lB) && decide (lB ≤ 2000)) = false) → ((okL lA lB lC) = false)) ∧ (((decide ((-2000) ≤ lB) && decide (lB ≤ 2000)) = true) → (((lC = lC) ∧ ((((-4000000) : Int) = (-4000000)) ∧ ((4000000 : Int) = 4000000))) ∧ ((((decide ((-4000000) ≤ lC) && decide (lC ≤ 4000000)) = false) → ((okL lA lB lC) = false)) ∧ (((decide ((-4000000) ≤ lC) && decide (lC ≤ 4000000)) = true) → (((0 < lA) → (((lA = lA) ∧ (lB = lB)) ∧ ((((gcdI lA lB) = (gcdI lA lB)) ∧ (lC = lC)) ∧ (((gcdI (gcdI lA lB) lC) = 1) ↔ ((okL lA lB lC) = true))))) ∧ ((lA ≤ 0) → (((0 < lB) → (((lA = lA) ∧ (lB = lB)) ∧ ((((gcdI lA lB) = (gcdI lA lB)) ∧ (lC = lC)) ∧ (((gcdI (gcdI lA lB) lC) = 1) ↔ ((okL lA lB lC) = true))))) ∧ ((lB ≤ 0) → ((okL lA lB lC) = false))))))))))))))) (by kernel_rfl) ?_
  intro h1 h2
  refine ⟨⟨rfl, ⟨rfl, rfl⟩⟩, ?_, ?_⟩
  · intro c1
    simp_all [okL, gcdI_abs_right]; omega
  · intro c2
    refine ⟨⟨rfl, ⟨rfl, rfl⟩⟩, ?_, ?_⟩
    · intro c3
      simp_all [okL, gcdI_abs_right]; omega
    · intro c4
      refine ⟨⟨rfl, ⟨rfl, rfl⟩⟩, ?_, ?_⟩
      · intro c5
        simp_all [okL, gcdI_abs_right]; omega
      · intro c6
        refine ⟨?_, ?_⟩
        · intro c7
          refine ⟨⟨rfl, rfl⟩, ⟨rfl, rfl⟩, ?_⟩
          simp_all [okL, gcdI_abs_right]; done
        · intro c8
          refine ⟨?_, ?_⟩
          · intro c9
            refine ⟨⟨rfl, rfl⟩, ⟨rfl, rfl⟩, ?_⟩
            simp_all [okL, gcdI_abs_right]; done
          · intro c10
            simp_all [okL, gcdI_abs_right]; omega
def c_i_Line_valid (lA : Int) (lB : Int) (lC : Int) : Cn Try.prog := ⟨_, _, _, _, _, i_Line_valid lA lB lC⟩
theorem s_validLine (lA : Int) (lB : Int) (lC : Int) : RunsTo Try.prog 88 [(.agg [(.int .i64 (.v fun _ => lA) (-20000000) 20000000), (.int .i64 (.v fun _ => lB) (-20000000) 20000000), (.int .i64 (.v fun _ => lC) (-20000000) 20000000)])] [] (.bool (.v fun _ => okL lA lB lC)) [] := by
  refine RunsTo.go env Try.func88 rfl Try.call88 rfl rfl (fun _ _ => (.call (c_s_inRange lA 0 2000) (.ite .ret (.call (c_s_inRange lB (-2000) 2000) (.ite .ret (.call (c_s_inRange lC (-4000000) 4000000) (.ite .ret (.ite (.call (c_s_abs lB) (.call (c_s_gcd lA (absI lB)) (.call (c_s_abs lC) (.call (c_s_gcd (gcdI lA (absI lB)) (absI lC)) .ret)))) (.ite (.call (c_s_abs lB) (.call (c_s_gcd lA (absI lB)) (.call (c_s_abs lC) (.call (c_s_gcd (gcdI lA (absI lB)) (absI lC)) .ret)))) .ret))))))))) (G := (((-20000000) ≤ lA ∧ lA ≤ 20000000) ∧ (((-20000000) ≤ lB ∧ lB ≤ 20000000) ∧ ((-20000000) ≤ lC ∧ lC ≤ 20000000))) → (True) → (((lA = lA) ∧ (((0 : Int) = 0) ∧ ((2000 : Int) = 2000))) ∧ ((((decide (0 ≤ lA) && decide (lA ≤ 2000)) = false) → ((okL lA lB lC) = false)) ∧ (((decide (0 ≤ lA) && decide (lA ≤ 2000)) = true) → (((lB = lB) ∧ ((((-2000) : Int) = (-2000)) ∧ ((2000 : Int) = 2000))) ∧ ((((decide ((-2000) ≤ lB) && decide (lB ≤ 2000)) = false) → ((okL lA lB lC) = false)) ∧ (((decide ((-2000) ≤ lB) && decide (lB ≤ 2000)) = true) → (((lC = lC) ∧ ((((-4000000) : Int) = (-4000000)) ∧ ((4000000 : Int) = 4000000))) ∧ ((((decide ((-4000000) ≤ lC) && decide (lC ≤ 4000000)) = false) → ((okL lA lB lC) = false)) ∧ (((decide ((-4000000) ≤ lC) && decide (lC ≤ 4000000)) = true) → (((0 < lA) → ((lB = lB) ∧ ((((lA = lA) ∧ (((-20000000) ≤ lA ∧ lA ≤ 20000000) → (0 ≤ lA ∧ lA ≤ 4000000000000000000))) ∧ ((absI lB) = (absI lB))) ∧ ((lC = lC) ∧ ((((gcdI lA (absI lB)) = (gcdI lA (absI lB))) ∧ ((absI lC) = (absI lC))) ∧ (((gcdI (gcdI lA (absI lB)) (absI lC)) = 1) ↔ ((okL lA lB lC) = true))))))) ∧ ((lA ≤ 0) → (((0 < lB) → ((lB = lB) ∧ ((((lA = lA) ∧ (((-20000000) ≤ lA ∧ lA ≤ 20000000) → (0 ≤ lA ∧ lA ≤ 4000000000000000000))) ∧ ((absI lB) = (absI lB))) ∧ ((lC = lC) ∧ ((((gcdI lA (absI lB)) = (gcdI lA (absI lB))) ∧ ((absI lC) = (absI lC))) ∧ (((gcdI (gcdI lA (absI lB)) (absI lC)) = 1) ↔ ((okL lA lB lC) = true))))))) ∧ ((lB ≤ 0) → ((okL lA lB lC) = false))))))))))))))) (by kernel_rfl) ?_
  intro h1 h2
  refine ⟨⟨rfl, ⟨rfl, rfl⟩⟩, ?_, ?_⟩
  · intro c1
    simp_all [okL, gcdI_abs_right]; omega
  · intro c2
    refine ⟨⟨rfl, ⟨rfl, rfl⟩⟩, ?_, ?_⟩
    · intro c3
      simp_all [okL, gcdI_abs_right]; omega
    · intro c4
      refine ⟨⟨rfl, ⟨rfl, rfl⟩⟩, ?_, ?_⟩
      · intro c5
        simp_all [okL, gcdI_abs_right]; omega
      · intro c6
        refine ⟨?_, ?_⟩
        · intro c7
          refine ⟨rfl, ?_, rfl, ⟨rfl, rfl⟩, ?_⟩
          · refine ⟨?_, rfl⟩
            refine ⟨rfl, ?_⟩
            intro c8
            omega
          · simp_all [okL, gcdI_abs_right]; done
        · intro c9
          refine ⟨?_, ?_⟩
          · intro c10
            refine ⟨rfl, ?_, rfl, ⟨rfl, rfl⟩, ?_⟩
            · refine ⟨?_, rfl⟩
              refine ⟨rfl, ?_⟩
              intro c11
              simp_all [okL, gcdI_abs_right]; omega
            · simp_all [okL, gcdI_abs_right]; done
          · intro c12
            simp_all [okL, gcdI_abs_right]; omega
def c_s_validLine (lA : Int) (lB : Int) (lC : Int) : Cn Try.prog := ⟨_, _, _, _, _, s_validLine lA lB lC⟩
theorem i_ValidLine (lA : Int) (lB : Int) (lC : Int) : RunsTo Try.prog 33 [(.agg [(.int .i64 (.v fun _ => lA) (-20000000) 20000000), (.int .i64 (.v fun _ => lB) (-20000000) 20000000), (.int .i64 (.v fun _ => lC) (-20000000) 20000000)])] [] (.bool (.v fun _ => okL lA lB lC)) [] := by
  refine RunsTo.go env Try.func33 rfl Try.call33 rfl rfl (fun _ _ => (.call (c_i_Line_valid lA lB lC) .ret)) (G := (((-20000000) ≤ lA ∧ lA ≤ 20000000) ∧ (((-20000000) ≤ lB ∧ lB ≤ 20000000) ∧ ((-20000000) ≤ lC ∧ lC ≤ 20000000))) → (True) → (((lA = lA) ∧ ((lB = lB) ∧ (lC = lC))) ∧ (((okL lA lB lC) = true) ↔ ((okL lA lB lC) = true)))) (by kernel_rfl) ?_
  intro h1 h2
  exact ⟨⟨rfl, ⟨rfl, rfl⟩⟩, Iff.rfl⟩
def c_i_ValidLine (lA : Int) (lB : Int) (lC : Int) : Cn Try.prog := ⟨_, _, _, _, _, i_ValidLine lA lB lC⟩
theorem okL_bd {a b c : Int} (h : okL a b c = true) : (0 ≤ a ∧ a ≤ 2000) ∧ (-2000 ≤ b ∧ b ≤ 2000) ∧ (-4000000 ≤ c ∧ c ≤ 4000000) ∧ (0 < a ∨ 0 < b) ∧ gcdI (gcdI a b) c = 1 := by
  simp only [okL, Bool.and_eq_true, Bool.or_eq_true, decide_eq_true_eq] at h
  exact ⟨h.1.1.1, h.1.1.2, h.1.2, h.2.1, h.2.2⟩
theorem i_SideOf (lA : Int) (lB : Int) (lC : Int) (pX : Int) (pY : Int) : RunsTo Try.prog 35 [(.agg [(.int .i64 (.v fun _ => lA) (-20000000) 20000000), (.int .i64 (.v fun _ => lB) (-20000000) 20000000), (.int .i64 (.v fun _ => lC) (-20000000) 20000000)]), (.agg [(.int .i64 (.v fun _ => pX) (-4000) 4000), (.int .i64 (.v fun _ => pY) (-4000) 4000)])] [] (.int .i64 (.v fun _ => sideL lA lB lC pX pY) (-1) 2) [] := by
  refine RunsTo.go env Try.func35 rfl Try.call35 rfl rfl (fun _ _ => (.call (c_i_Line_valid lA lB lC) (.ite .ret (.call (c_i_valid pX pY) (.ite .ret (.call (c_i_sign (((lA * pX) + (lB * pY)) - lC)) .ret)))))) (G := ((((-20000000) ≤ lA ∧ lA ≤ 20000000) ∧ (((-20000000) ≤ lB ∧ lB ≤ 20000000) ∧ ((-20000000) ≤ lC ∧ lC ≤ 20000000))) ∧ (((-4000) ≤ pX ∧ pX ≤ 4000) ∧ ((-4000) ≤ pY ∧ pY ≤ 4000))) → (True) → (((lA = lA) ∧ ((lB = lB) ∧ (lC = lC))) ∧ ((((okL lA lB lC) = false) → ((2 : Int) = (sideL lA lB lC pX pY))) ∧ (((okL lA lB lC) = true) → (((pX = pX) ∧ (pY = pY)) ∧ ((((okP pX pY) = false) → ((2 : Int) = (sideL lA lB lC pX pY))) ∧ (((okP pX pY) = true) → (((((lA * pX) + (lB * pY)) - lC) = (((lA * pX) + (lB * pY)) - lC)) ∧ ((sgn (((lA * pX) + (lB * pY)) - lC)) = (sideL lA lB lC pX pY)))))))))) (by kernel_rfl) ?_
  intro h1 h2
  refine ⟨⟨rfl, ⟨rfl, rfl⟩⟩, ?_, ?_⟩
  · intro c1
    simp_all [sideL]; done
  · intro c2
    refine ⟨⟨rfl, rfl⟩, ?_, ?_⟩
    · intro c3
      simp_all [sideL]; done
    · intro c4
      refine ⟨rfl, ?_⟩
      simp_all [sideL]; done
def c_i_SideOf (lA : Int) (lB : Int) (lC : Int) (pX : Int) (pY : Int) : Cn Try.prog := ⟨_, _, _, _, _, i_SideOf lA lB lC pX pY⟩
def ltOK (aX aY bX bY : Int) : Bool := okP aX aY && okP bX bY && !(decide (aX = bX) && decide (aY = bY))
def liA (aX aY bX bY : Int) : Int := orZ (ltOK aX aY bX bY) (ltA (bX - aX) (bY - aY))
def liB (aX aY bX bY : Int) : Int := orZ (ltOK aX aY bX bY) (ltB (bX - aX) (bY - aY))
def liC (aX aY bX bY : Int) : Int := orZ (ltOK aX aY bX bY) (ltA (bX - aX) (bY - aY) * aX + ltB (bX - aX) (bY - aY) * aY)
theorem al2 (aX aY bX bY : Int) : allB (fun i => okP (selL [aX, bX] i) (selL [aY, bY] i)) 2 = (okP aX aY && okP bX bY) := by
  rw [allB2]; rfl
theorem tdiv_nn {x g : Int} (h : g ∣ x) : (0 - x).tdiv (0 - g) = x / g := by
  rw [Int.zero_sub, Int.zero_sub, Int.neg_tdiv, Int.tdiv_neg, Int.neg_neg, Int.tdiv_eq_ediv_of_dvd h]
theorem g_pos {dX dY : Int} (h : dX ≠ 0 ∨ dY ≠ 0) : 1 ≤ gcdI dX dY := by
  rcases h with h | h
  · rw [gcdI_comm]; exact gcdI_pos dY dX h
  · exact gcdI_pos dX dY h
theorem li_ok {aX aY bX bY : Int} (ha : okP aX aY = true) (hb : okP bX bY = true) (h : aX ≠ bX ∨ aY ≠ bY) : ltOK aX aY bX bY = true ∧ 1 ≤ gcdI (bX - aX) (bY - aY) ∧ liA aX aY bX bY = ltA (bX - aX) (bY - aY) ∧ liB aX aY bX bY = ltB (bX - aX) (bY - aY) ∧
    liC aX aY bX bY = ltA (bX - aX) (bY - aY) * aX + ltB (bX - aX) (bY - aY) * aY := by
  have ho : ltOK aX aY bX bY = true := by
    simp only [ltOK, ha, hb, Bool.and_self, Bool.true_and, Bool.not_eq_true', Bool.and_eq_false_iff, decide_eq_false_iff_not]
    exact h
  refine ⟨ho, g_pos (by omega), ?_, ?_, ?_⟩
  · simp [liA, orZ, ho]
  · simp [liB, orZ, ho]
  · simp [liC, orZ, ho]
theorem lt_pos {dX dY : Int} (h : dY < 0 ∨ (dY = 0 ∧ 0 < dX)) : ltA dX dY = Int.tdiv dY (0 - gcdI dX dY) ∧ ltB dX dY = Int.tdiv (0 - dX) (0 - gcdI dX dY) := by
  have hs : ltS dX dY = true := by simp only [ltS, Bool.or_eq_true, Bool.and_eq_true, decide_eq_true_eq]; exact h
  unfold ltA ltB
  rw [if_pos hs, if_pos hs, tdiv_nn (gcdI_left dX dY), (tdiv_g (gcdI_right dX dY)).2.1]
  exact ⟨rfl, rfl⟩
theorem lt_neg {dX dY : Int} (h : ¬ (dY < 0 ∨ (dY = 0 ∧ 0 < dX))) : ltA dX dY = Int.tdiv dY (gcdI dX dY) ∧ ltB dX dY = Int.tdiv (0 - dX) (gcdI dX dY) := by
  have hs : ¬ ltS dX dY = true := by simp only [ltS, Bool.or_eq_true, Bool.and_eq_true, decide_eq_true_eq]; exact h
  unfold ltA ltB
  rw [if_neg hs, if_neg hs, (tdiv_g (gcdI_left dX dY)).2.2, (tdiv_g (gcdI_right dX dY)).1]
  exact ⟨rfl, rfl⟩
theorem lt_bd {dX dY M : Int} (hg : 1 ≤ gcdI dX dY) (h1 : -M ≤ dX ∧ dX ≤ M) (h2 : -M ≤ dY ∧ dY ≤ M) : (-M ≤ ltA dX dY ∧ ltA dX dY ≤ M) ∧ -M ≤ ltB dX dY ∧ ltB dX dY ≤ M := by
  have b1 := ediv_bd dX (gcdI dX dY) M hg h1.1 h1.2
  have b2 := ediv_bd dY (gcdI dX dY) M hg h2.1 h2.2
  unfold ltA ltB
  split <;> omega
theorem liC_bd {aX aY bX bY : Int} (ha : -1001 ≤ aX ∧ aX ≤ 1001) (ha2 : -1001 ≤ aY ∧ aY ≤ 1001) (hb : -1001 ≤ bX ∧ bX ≤ 1001) (hb2 : -1001 ≤ bY ∧ bY ≤ 1001) (h : aX ≠ bX ∨ aY ≠ bY) :
    -10000000 ≤ ltA (bX - aX) (bY - aY) * aX + ltB (bX - aX) (bY - aY) * aY ∧ ltA (bX - aX) (bY - aY) * aX + ltB (bX - aX) (bY - aY) * aY ≤ 10000000 := by
  have hb := lt_bd (M := 2002) (g_pos (dX := bX - aX) (dY := bY - aY) (by omega)) (by omega) (by omega)
  have m1 := mul_bd (ltA (bX - aX) (bY - aY)) aX 2002 1001 (by omega) (by omega) (by omega) (by omega)
  have m2 := mul_bd (ltB (bX - aX) (bY - aY)) aY 2002 1001 (by omega) (by omega) (by omega) (by omega)
  omega
theorem i_LineThrough (aX : Int) (aY : Int) (bX : Int) (bY : Int) : RunsTo Try.prog 39 [(.agg [(.int .i64 (.v fun _ => aX) (-1001) 1001), (.int .i64 (.v fun _ => aY) (-1001) 1001)]), (.agg [(.int .i64 (.v fun _ => bX) (-1001) 1001), (.int .i64 (.v fun _ => bY) (-1001) 1001)])] [] (.tup [(.agg [(.int .i64 (.v fun _ => liA aX aY bX bY) (-10000000) 10000000), (.int .i64 (.v fun _ => liB aX aY bX bY) (-10000000) 10000000), (.int .i64 (.v fun _ => liC aX aY bX bY) (-10000000) 10000000)]), (.bool (.v fun _ => ltOK aX aY bX bY))]) [] := by
  refine RunsTo.go env Try.func39 rfl Try.call39 rfl rfl (fun _ _ => (.call (c_i_allValid (selL [aX, bX]) (selL [aY, bY]) 2) (.ite .ret (.ite .ret (.callF (c_i_minus bX bY aX aY) (.callF (c_i_divisor (bX - aX) (bY - aY)) (.ite (.need (.need .ret)) (.ite (.ite (.need (.need .ret)) (.need (.need .ret))) (.need (.need .ret)))))))))) (G := ((((-1001) ≤ aX ∧ aX ≤ 1001) ∧ ((-1001) ≤ aY ∧ aY ≤ 1001)) ∧ (((-1001) ≤ bX ∧ bX ≤ 1001) ∧ ((-1001) ≤ bY ∧ bY ≤ 1001))) → (True) → (((2 : Int) = 2) ∧ ((((2 : Int) = 2) ∧ ((∀ e2 : E, ((e2.den = 0) → ((aX = (selL [aX, bX] (e2.den))) ∧ (aY = (selL [aY, bY] (e2.den)))))) ∧ (∀ e1 : E, ((e1.den = 1) → ((bX = (selL [aX, bX] (e1.den))) ∧ (bY = (selL [aY, bY] (e1.den)))))))) ∧ ((((allB (fun i => okP (selL [aX, bX] i) (selL [aY, bY] i)) 2) = false) → ((((0 : Int) = (liA aX aY bX bY)) ∧ (((0 : Int) = (liB aX aY bX bY)) ∧ ((0 : Int) = (liC aX aY bX bY)))) ∧ ((ltOK aX aY bX bY) = false))) ∧ (((allB (fun i => okP (selL [aX, bX] i) (selL [aY, bY] i)) 2) = true) → (((((aX = bX) ∧ (aY = bY))) → ((((0 : Int) = (liA aX aY bX bY)) ∧ (((0 : Int) = (liB aX aY bX bY)) ∧ ((0 : Int) = (liC aX aY bX bY)))) ∧ ((ltOK aX aY bX bY) = false))) ∧ ((((aX ≠ bX) ∨ (aY ≠ bY))) → ((((bX = bX) ∧ (bY = bY)) ∧ ((aX = aX) ∧ (aY = aY))) ∧ ((((-8000) ≤ (bX - aX) ∧ (bX - aX) ≤ 8000) ∧ ((-8000) ≤ (bY - aY) ∧ (bY - aY) ≤ 8000)) → ((((bX - aX) = (bX - aX)) ∧ ((bY - aY) = (bY - aY))) ∧ ((0 ≤ (gcdI (bX - aX) (bY - aY)) ∧ (gcdI (bX - aX) (bY - aY)) ≤ 4000000000000000000) → ((((bY - aY) < 0) → (((0 - (gcdI (bX - aX) (bY - aY))) ≠ 0) ∧ (((0 - (gcdI (bX - aX) (bY - aY))) ≠ 0) ∧ ((((Int.tdiv (bY - aY) (0 - (gcdI (bX - aX) (bY - aY)))) = (liA aX aY bX bY)) ∧ (((Int.tdiv (0 - (bX - aX)) (0 - (gcdI (bX - aX) (bY - aY)))) = (liB aX aY bX bY)) ∧ (((((Int.tdiv (bY - aY) (0 - (gcdI (bX - aX) (bY - aY)))) * aX) + ((Int.tdiv (0 - (bX - aX)) (0 - (gcdI (bX - aX) (bY - aY)))) * aY)) = (liC aX aY bX bY)) ∧ (((-16016000) ≤ (((Int.tdiv (bY - aY) (0 - (gcdI (bX - aX) (bY - aY)))) * aX) + ((Int.tdiv (0 - (bX - aX)) (0 - (gcdI (bX - aX) (bY - aY)))) * aY)) ∧ (((Int.tdiv (bY - aY) (0 - (gcdI (bX - aX) (bY - aY)))) * aX) + ((Int.tdiv (0 - (bX - aX)) (0 - (gcdI (bX - aX) (bY - aY)))) * aY)) ≤ 16016000) → ((-10000000) ≤ (liC aX aY bX bY) ∧ (liC aX aY bX bY) ≤ 10000000))))) ∧ ((ltOK aX aY bX bY) = true))))) ∧ ((0 ≤ (bY - aY)) → ((((bY - aY) = 0) → (((0 < (bX - aX)) → (((0 - (gcdI (bX - aX) (bY - aY))) ≠ 0) ∧ (((0 - (gcdI (bX - aX) (bY - aY))) ≠ 0) ∧ ((((Int.tdiv (bY - aY) (0 - (gcdI (bX - aX) (bY - aY)))) = (liA aX aY bX bY)) ∧ (((Int.tdiv (0 - (bX - aX)) (0 - (gcdI (bX - aX) (bY - aY)))) = (liB aX aY bX bY)) ∧ (((((Int.tdiv (bY - aY) (0 - (gcdI (bX - aX) (bY - aY)))) * aX) + ((Int.tdiv (0 - (bX - aX)) (0 - (gcdI (bX - aX) (bY - aY)))) * aY)) = (liC aX aY bX bY)) ∧ (((-16016000) ≤ (((Int.tdiv (bY - aY) (0 - (gcdI (bX - aX) (bY - aY)))) * aX) + ((Int.tdiv (0 - (bX - aX)) (0 - (gcdI (bX - aX) (bY - aY)))) * aY)) ∧ (((Int.tdiv (bY - aY) (0 - (gcdI (bX - aX) (bY - aY)))) * aX) + ((Int.tdiv (0 - (bX - aX)) (0 - (gcdI (bX - aX) (bY - aY)))) * aY)) ≤ 16016000) → ((-10000000) ≤ (liC aX aY bX bY) ∧ (liC aX aY bX bY) ≤ 10000000))))) ∧ ((ltOK aX aY bX bY) = true))))) ∧ (((bX - aX) ≤ 0) → (((gcdI (bX - aX) (bY - aY)) ≠ 0) ∧ (((gcdI (bX - aX) (bY - aY)) ≠ 0) ∧ ((((Int.tdiv (bY - aY) (gcdI (bX - aX) (bY - aY))) = (liA aX aY bX bY)) ∧ (((Int.tdiv (0 - (bX - aX)) (gcdI (bX - aX) (bY - aY))) = (liB aX aY bX bY)) ∧ (((((Int.tdiv (bY - aY) (gcdI (bX - aX) (bY - aY))) * aX) + ((Int.tdiv (0 - (bX - aX)) (gcdI (bX - aX) (bY - aY))) * aY)) = (liC aX aY bX bY)) ∧ (((-16016000) ≤ (((Int.tdiv (bY - aY) (gcdI (bX - aX) (bY - aY))) * aX) + ((Int.tdiv (0 - (bX - aX)) (gcdI (bX - aX) (bY - aY))) * aY)) ∧ (((Int.tdiv (bY - aY) (gcdI (bX - aX) (bY - aY))) * aX) + ((Int.tdiv (0 - (bX - aX)) (gcdI (bX - aX) (bY - aY))) * aY)) ≤ 16016000) → ((-10000000) ≤ (liC aX aY bX bY) ∧ (liC aX aY bX bY) ≤ 10000000))))) ∧ ((ltOK aX aY bX bY) = true))))))) ∧ (((bY - aY) ≠ 0) → (((gcdI (bX - aX) (bY - aY)) ≠ 0) ∧ (((gcdI (bX - aX) (bY - aY)) ≠ 0) ∧ ((((Int.tdiv (bY - aY) (gcdI (bX - aX) (bY - aY))) = (liA aX aY bX bY)) ∧ (((Int.tdiv (0 - (bX - aX)) (gcdI (bX - aX) (bY - aY))) = (liB aX aY bX bY)) ∧ (((((Int.tdiv (bY - aY) (gcdI (bX - aX) (bY - aY))) * aX) + ((Int.tdiv (0 - (bX - aX)) (gcdI (bX - aX) (bY - aY))) * aY)) = (liC aX aY bX bY)) ∧ (((-16016000) ≤ (((Int.tdiv (bY - aY) (gcdI (bX - aX) (bY - aY))) * aX) + ((Int.tdiv (0 - (bX - aX)) (gcdI (bX - aX) (bY - aY))) * aY)) ∧ (((Int.tdiv (bY - aY) (gcdI (bX - aX) (bY - aY))) * aX) + ((Int.tdiv (0 - (bX - aX)) (gcdI (bX - aX) (bY - aY))) * aY)) ≤ 16016000) → ((-10000000) ≤ (liC aX aY bX bY) ∧ (liC aX aY bX bY) ≤ 10000000))))) ∧ ((ltOK aX aY bX bY) = true))))))))))))))))))) (by kernel_rfl) ?_
  intro h1 h2
  refine ⟨rfl, ?_, ?_, ?_⟩
  · refine ⟨rfl, ?_, ?_⟩
    · intro e2
      intro c3
      refine ⟨?_, ?_⟩
      · simp_all [selL]; done
      · simp_all [selL]; done
    · intro e1
      intro c4
      refine ⟨?_, ?_⟩
      · simp_all [selL]; done
      · simp_all [selL]; done
  · intro c5
    refine ⟨?_, ?_⟩
    · refine ⟨?_, ?_, ?_⟩
      · simp_all [liA, liB, liC, ltOK, orZ, al2]; done
      · simp_all [liA, liB, liC, ltOK, orZ, al2]; done
      · simp_all [liA, liB, liC, ltOK, orZ, al2]; done
    · simp_all [liA, liB, liC, ltOK, orZ, al2]; done
  · intro c6
    refine ⟨?_, ?_⟩
    · intro c7
      refine ⟨?_, ?_⟩
      · refine ⟨?_, ?_, ?_⟩
        · simp_all [liA, liB, liC, ltOK, orZ, al2]; done
        · simp_all [liA, liB, liC, ltOK, orZ, al2]; done
        · simp_all [liA, liB, liC, ltOK, orZ, al2]; done
      · simp_all [liA, liB, liC, ltOK, orZ, al2]; done
    · intro c8
      refine ⟨⟨⟨rfl, rfl⟩, ⟨rfl, rfl⟩⟩, ?_⟩
      intro c9
      refine ⟨⟨rfl, rfl⟩, ?_⟩
      intro c10
      refine ⟨?_, ?_⟩
      · intro c11
        refine ⟨?_, ?_, ?_, ?_⟩
        · have hk := al2 aX aY bX bY; have hv : okP aX aY = true ∧ okP bX bY = true := (by simp_all); have hl := li_ok hv.1 hv.2 (by omega); first | omega | exact hl.1 | (have hs := lt_pos (dX := bX - aX) (dY := bY - aY) (by omega); simp only [hl.2.2.1, hl.2.2.2.1, hl.2.2.2.2, hs.1, hs.2]; done) | (have hs := lt_neg (dX := bX - aX) (dY := bY - aY) (by omega); simp only [hl.2.2.1, hl.2.2.2.1, hl.2.2.2.2, hs.1, hs.2]; done) | (have hc := liC_bd (aX := aX) (aY := aY) (bX := bX) (bY := bY) (by omega) (by omega) (by omega) (by omega) (by omega); rw [hl.2.2.2.2]; exact hc)
        · have hk := al2 aX aY bX bY; have hv : okP aX aY = true ∧ okP bX bY = true := (by simp_all); have hl := li_ok hv.1 hv.2 (by omega); first | omega | exact hl.1 | (have hs := lt_pos (dX := bX - aX) (dY := bY - aY) (by omega); simp only [hl.2.2.1, hl.2.2.2.1, hl.2.2.2.2, hs.1, hs.2]; done) | (have hs := lt_neg (dX := bX - aX) (dY := bY - aY) (by omega); simp only [hl.2.2.1, hl.2.2.2.1, hl.2.2.2.2, hs.1, hs.2]; done) | (have hc := liC_bd (aX := aX) (aY := aY) (bX := bX) (bY := bY) (by omega) (by omega) (by omega) (by omega) (by omega); rw [hl.2.2.2.2]; exact hc)
        · refine ⟨?_, ?_, ?_, ?_⟩
          · have hk := al2 aX aY bX bY; have hv : okP aX aY = true ∧ okP bX bY = true := (by simp_all); have hl := li_ok hv.1 hv.2 (by omega); first | omega | exact hl.1 | (have hs := lt_pos (dX := bX - aX) (dY := bY - aY) (by omega); simp only [hl.2.2.1, hl.2.2.2.1, hl.2.2.2.2, hs.1, hs.2]; done) | (have hs := lt_neg (dX := bX - aX) (dY := bY - aY) (by omega); simp only [hl.2.2.1, hl.2.2.2.1, hl.2.2.2.2, hs.1, hs.2]; done) | (have hc := liC_bd (aX := aX) (aY := aY) (bX := bX) (bY := bY) (by omega) (by omega) (by omega) (by omega) (by omega); rw [hl.2.2.2.2]; exact hc)
          · have hk := al2 aX aY bX bY; have hv : okP aX aY = true ∧ okP bX bY = true := (by simp_all); have hl := li_ok hv.1 hv.2 (by omega); first | omega | exact hl.1 | (have hs := lt_pos (dX := bX - aX) (dY := bY - aY) (by omega); simp only [hl.2.2.1, hl.2.2.2.1, hl.2.2.2.2, hs.1, hs.2]; done) | (have hs := lt_neg (dX := bX - aX) (dY := bY - aY) (by omega); simp only [hl.2.2.1, hl.2.2.2.1, hl.2.2.2.2, hs.1, hs.2]; done) | (have hc := liC_bd (aX := aX) (aY := aY) (bX := bX) (bY := bY) (by omega) (by omega) (by omega) (by omega) (by omega); rw [hl.2.2.2.2]; exact hc)
          · have hk := al2 aX aY bX bY; have hv : okP aX aY = true ∧ okP bX bY = true := (by simp_all); have hl := li_ok hv.1 hv.2 (by omega); first | omega | exact hl.1 | (have hs := lt_pos (dX := bX - aX) (dY := bY - aY) (by omega); simp only [hl.2.2.1, hl.2.2.2.1, hl.2.2.2.2, hs.1, hs.2]; done) | (have hs := lt_neg (dX := bX - aX) (dY := bY - aY) (by omega); simp only [hl.2.2.1, hl.2.2.2.1, hl.2.2.2.2, hs.1, hs.2]; done) | (have hc := liC_bd (aX := aX) (aY := aY) (bX := bX) (bY := bY) (by omega) (by omega) (by omega) (by omega) (by omega); rw [hl.2.2.2.2]; exact hc)
          · intro c12
            have hk := al2 aX aY bX bY; have hv : okP aX aY = true ∧ okP bX bY = true := (by simp_all); have hl := li_ok hv.1 hv.2 (by omega); first | omega | exact hl.1 | (have hs := lt_pos (dX := bX - aX) (dY := bY - aY) (by omega); simp only [hl.2.2.1, hl.2.2.2.1, hl.2.2.2.2, hs.1, hs.2]; done) | (have hs := lt_neg (dX := bX - aX) (dY := bY - aY) (by omega); simp only [hl.2.2.1, hl.2.2.2.1, hl.2.2.2.2, hs.1, hs.2]; done) | (have hc := liC_bd (aX := aX) (aY := aY) (bX := bX) (bY := bY) (by omega) (by omega) (by omega) (by omega) (by omega); rw [hl.2.2.2.2]; exact hc)
        · simp_all [liA, liB, liC, ltOK, orZ, al2]; done
      · intro c13
        refine ⟨?_, ?_⟩
        · intro c14
          refine ⟨?_, ?_⟩
          · intro c15
            refine ⟨?_, ?_, ?_, ?_⟩
            · have hk := al2 aX aY bX bY; have hv : okP aX aY = true ∧ okP bX bY = true := (by simp_all); have hl := li_ok hv.1 hv.2 (by omega); first | omega | exact hl.1 | (have hs := lt_pos (dX := bX - aX) (dY := bY - aY) (by omega); simp only [hl.2.2.1, hl.2.2.2.1, hl.2.2.2.2, hs.1, hs.2]; done) | (have hs := lt_neg (dX := bX - aX) (dY := bY - aY) (by omega); simp only [hl.2.2.1, hl.2.2.2.1, hl.2.2.2.2, hs.1, hs.2]; done) | (have hc := liC_bd (aX := aX) (aY := aY) (bX := bX) (bY := bY) (by omega) (by omega) (by omega) (by omega) (by omega); rw [hl.2.2.2.2]; exact hc)
            · have hk := al2 aX aY bX bY; have hv : okP aX aY = true ∧ okP bX bY = true := (by simp_all); have hl := li_ok hv.1 hv.2 (by omega); first | omega | exact hl.1 | (have hs := lt_pos (dX := bX - aX) (dY := bY - aY) (by omega); simp only [hl.2.2.1, hl.2.2.2.1, hl.2.2.2.2, hs.1, hs.2]; done) | (have hs := lt_neg (dX := bX - aX) (dY := bY - aY) (by omega); simp only [hl.2.2.1, hl.2.2.2.1, hl.2.2.2.2, hs.1, hs.2]; done) | (have hc := liC_bd (aX := aX) (aY := aY) (bX := bX) (bY := bY) (by omega) (by omega) (by omega) (by omega) (by omega); rw [hl.2.2.2.2]; exact hc)
            · refine ⟨?_, ?_, ?_, ?_⟩
              · have hk := al2 aX aY bX bY; have hv : okP aX aY = true ∧ okP bX bY = true := (by simp_all); have hl := li_ok hv.1 hv.2 (by omega); first | omega | exact hl.1 | (have hs := lt_pos (dX := bX - aX) (dY := bY - aY) (by omega); simp only [hl.2.2.1, hl.2.2.2.1, hl.2.2.2.2, hs.1, hs.2]; done) | (have hs := lt_neg (dX := bX - aX) (dY := bY - aY) (by omega); simp only [hl.2.2.1, hl.2.2.2.1, hl.2.2.2.2, hs.1, hs.2]; done) | (have hc := liC_bd (aX := aX) (aY := aY) (bX := bX) (bY := bY) (by omega) (by omega) (by omega) (by omega) (by omega); rw [hl.2.2.2.2]; exact hc)
              · have hk := al2 aX aY bX bY; have hv : okP aX aY = true ∧ okP bX bY = true := (by simp_all); have hl := li_ok hv.1 hv.2 (by omega); first | omega | exact hl.1 | (have hs := lt_pos (dX := bX - aX) (dY := bY - aY) (by omega); simp only [hl.2.2.1, hl.2.2.2.1, hl.2.2.2.2, hs.1, hs.2]; done) | (have hs := lt_neg (dX := bX - aX) (dY := bY - aY) (by omega); simp only [hl.2.2.1, hl.2.2.2.1, hl.2.2.2.2, hs.1, hs.2]; done) | (have hc := liC_bd (aX := aX) (aY := aY) (bX := bX) (bY := bY) (by omega) (by omega) (by omega) (by omega) (by omega); rw [hl.2.2.2.2]; exact hc)
              · have hk := al2 aX aY bX bY; have hv : okP aX aY = true ∧ okP bX bY = true := (by simp_all); have hl := li_ok hv.1 hv.2 (by omega); first | omega | exact hl.1 | (have hs := lt_pos (dX := bX - aX) (dY := bY - aY) (by omega); simp only [hl.2.2.1, hl.2.2.2.1, hl.2.2.2.2, hs.1, hs.2]; done) | (have hs := lt_neg (dX := bX - aX) (dY := bY - aY) (by omega); simp only [hl.2.2.1, hl.2.2.2.1, hl.2.2.2.2, hs.1, hs.2]; done) | (have hc := liC_bd (aX := aX) (aY := aY) (bX := bX) (bY := bY) (by omega) (by omega) (by omega) (by omega) (by omega); rw [hl.2.2.2.2]; exact hc)
              · intro c16
                have hk := al2 aX aY bX bY; have hv : okP aX aY = true ∧ okP bX bY = true := (by simp_all); have hl := li_ok hv.1 hv.2 (by omega); first | omega | exact hl.1 | (have hs := lt_pos (dX := bX - aX) (dY := bY - aY) (by omega); simp only [hl.2.2.1, hl.2.2.2.1, hl.2.2.2.2, hs.1, hs.2]; done) | (have hs := lt_neg (dX := bX - aX) (dY := bY - aY) (by omega); simp only [hl.2.2.1, hl.2.2.2.1, hl.2.2.2.2, hs.1, hs.2]; done) | (have hc := liC_bd (aX := aX) (aY := aY) (bX := bX) (bY := bY) (by omega) (by omega) (by omega) (by omega) (by omega); rw [hl.2.2.2.2]; exact hc)
            · simp_all [liA, liB, liC, ltOK, orZ, al2]; done
          · intro c17
            refine ⟨?_, ?_, ?_, ?_⟩
            · have hk := al2 aX aY bX bY; have hv : okP aX aY = true ∧ okP bX bY = true := (by simp_all); have hl := li_ok hv.1 hv.2 (by omega); first | omega | exact hl.1 | (have hs := lt_pos (dX := bX - aX) (dY := bY - aY) (by omega); simp only [hl.2.2.1, hl.2.2.2.1, hl.2.2.2.2, hs.1, hs.2]; done) | (have hs := lt_neg (dX := bX - aX) (dY := bY - aY) (by omega); simp only [hl.2.2.1, hl.2.2.2.1, hl.2.2.2.2, hs.1, hs.2]; done) | (have hc := liC_bd (aX := aX) (aY := aY) (bX := bX) (bY := bY) (by omega) (by omega) (by omega) (by omega) (by omega); rw [hl.2.2.2.2]; exact hc)
            · have hk := al2 aX aY bX bY; have hv : okP aX aY = true ∧ okP bX bY = true := (by simp_all); have hl := li_ok hv.1 hv.2 (by omega); first | omega | exact hl.1 | (have hs := lt_pos (dX := bX - aX) (dY := bY - aY) (by omega); simp only [hl.2.2.1, hl.2.2.2.1, hl.2.2.2.2, hs.1, hs.2]; done) | (have hs := lt_neg (dX := bX - aX) (dY := bY - aY) (by omega); simp only [hl.2.2.1, hl.2.2.2.1, hl.2.2.2.2, hs.1, hs.2]; done) | (have hc := liC_bd (aX := aX) (aY := aY) (bX := bX) (bY := bY) (by omega) (by omega) (by omega) (by omega) (by omega); rw [hl.2.2.2.2]; exact hc)
            · refine ⟨?_, ?_, ?_, ?_⟩
              · have hk := al2 aX aY bX bY; have hv : okP aX aY = true ∧ okP bX bY = true := (by simp_all); have hl := li_ok hv.1 hv.2 (by omega); first | omega | exact hl.1 | (have hs := lt_pos (dX := bX - aX) (dY := bY - aY) (by omega); simp only [hl.2.2.1, hl.2.2.2.1, hl.2.2.2.2, hs.1, hs.2]; done) | (have hs := lt_neg (dX := bX - aX) (dY := bY - aY) (by omega); simp only [hl.2.2.1, hl.2.2.2.1, hl.2.2.2.2, hs.1, hs.2]; done) | (have hc := liC_bd (aX := aX) (aY := aY) (bX := bX) (bY := bY) (by omega) (by omega) (by omega) (by omega) (by omega); rw [hl.2.2.2.2]; exact hc)
              · have hk := al2 aX aY bX bY; have hv : okP aX aY = true ∧ okP bX bY = true := (by simp_all); have hl := li_ok hv.1 hv.2 (by omega); first | omega | exact hl.1 | (have hs := lt_pos (dX := bX - aX) (dY := bY - aY) (by omega); simp only [hl.2.2.1, hl.2.2.2.1, hl.2.2.2.2, hs.1, hs.2]; done) | (have hs := lt_neg (dX := bX - aX) (dY := bY - aY) (by omega); simp only [hl.2.2.1, hl.2.2.2.1, hl.2.2.2.2, hs.1, hs.2]; done) | (have hc := liC_bd (aX := aX) (aY := aY) (bX := bX) (bY := bY) (by omega) (by omega) (by omega) (by omega) (by omega); rw [hl.2.2.2.2]; exact hc)
              · have hk := al2 aX aY bX bY; have hv : okP aX aY = true ∧ okP bX bY = true := (by simp_all); have hl := li_ok hv.1 hv.2 (by omega); first | omega | exact hl.1 | (have hs := lt_pos (dX := bX - aX) (dY := bY - aY) (by omega); simp only [hl.2.2.1, hl.2.2.2.1, hl.2.2.2.2, hs.1, hs.2]; done) | (have hs := lt_neg (dX := bX - aX) (dY := bY - aY) (by omega); simp only [hl.2.2.1, hl.2.2.2.1, hl.2.2.2.2, hs.1, hs.2]; done) | (have hc := liC_bd (aX := aX) (aY := aY) (bX := bX) (bY := bY) (by omega) (by omega) (by omega) (by omega) (by omega); rw [hl.2.2.2.2]; exact hc)
              · intro c18
                have hk := al2 aX aY bX bY; have hv : okP aX aY = true ∧ okP bX bY = true := (by simp_all); have hl := li_ok hv.1 hv.2 (by omega); first | omega | exact hl.1 | (have hs := lt_pos (dX := bX - aX) (dY := bY - aY) (by omega); simp only [hl.2.2.1, hl.2.2.2.1, hl.2.2.2.2, hs.1, hs.2]; done) | (have hs := lt_neg (dX := bX - aX) (dY := bY - aY) (by omega); simp only [hl.2.2.1, hl.2.2.2.1, hl.2.2.2.2, hs.1, hs.2]; done) | (have hc := liC_bd (aX := aX) (aY := aY) (bX := bX) (bY := bY) (by omega) (by omega) (by omega) (by omega) (by omega); rw [hl.2.2.2.2]; exact hc)
            · simp_all [liA, liB, liC, ltOK, orZ, al2]; done
        · intro c19
          refine ⟨?_, ?_, ?_, ?_⟩
          · have hk := al2 aX aY bX bY; have hv : okP aX aY = true ∧ okP bX bY = true := (by simp_all); have hl := li_ok hv.1 hv.2 (by omega); first | omega | exact hl.1 | (have hs := lt_pos (dX := bX - aX) (dY := bY - aY) (by omega); simp only [hl.2.2.1, hl.2.2.2.1, hl.2.2.2.2, hs.1, hs.2]; done) | (have hs := lt_neg (dX := bX - aX) (dY := bY - aY) (by omega); simp only [hl.2.2.1, hl.2.2.2.1, hl.2.2.2.2, hs.1, hs.2]; done) | (have hc := liC_bd (aX := aX) (aY := aY) (bX := bX) (bY := bY) (by omega) (by omega) (by omega) (by omega) (by omega); rw [hl.2.2.2.2]; exact hc)
          · have hk := al2 aX aY bX bY; have hv : okP aX aY = true ∧ okP bX bY = true := (by simp_all); have hl := li_ok hv.1 hv.2 (by omega); first | omega | exact hl.1 | (have hs := lt_pos (dX := bX - aX) (dY := bY - aY) (by omega); simp only [hl.2.2.1, hl.2.2.2.1, hl.2.2.2.2, hs.1, hs.2]; done) | (have hs := lt_neg (dX := bX - aX) (dY := bY - aY) (by omega); simp only [hl.2.2.1, hl.2.2.2.1, hl.2.2.2.2, hs.1, hs.2]; done) | (have hc := liC_bd (aX := aX) (aY := aY) (bX := bX) (bY := bY) (by omega) (by omega) (by omega) (by omega) (by omega); rw [hl.2.2.2.2]; exact hc)
          · refine ⟨?_, ?_, ?_, ?_⟩
            · have hk := al2 aX aY bX bY; have hv : okP aX aY = true ∧ okP bX bY = true := (by simp_all); have hl := li_ok hv.1 hv.2 (by omega); first | omega | exact hl.1 | (have hs := lt_pos (dX := bX - aX) (dY := bY - aY) (by omega); simp only [hl.2.2.1, hl.2.2.2.1, hl.2.2.2.2, hs.1, hs.2]; done) | (have hs := lt_neg (dX := bX - aX) (dY := bY - aY) (by omega); simp only [hl.2.2.1, hl.2.2.2.1, hl.2.2.2.2, hs.1, hs.2]; done) | (have hc := liC_bd (aX := aX) (aY := aY) (bX := bX) (bY := bY) (by omega) (by omega) (by omega) (by omega) (by omega); rw [hl.2.2.2.2]; exact hc)
            · have hk := al2 aX aY bX bY; have hv : okP aX aY = true ∧ okP bX bY = true := (by simp_all); have hl := li_ok hv.1 hv.2 (by omega); first | omega | exact hl.1 | (have hs := lt_pos (dX := bX - aX) (dY := bY - aY) (by omega); simp only [hl.2.2.1, hl.2.2.2.1, hl.2.2.2.2, hs.1, hs.2]; done) | (have hs := lt_neg (dX := bX - aX) (dY := bY - aY) (by omega); simp only [hl.2.2.1, hl.2.2.2.1, hl.2.2.2.2, hs.1, hs.2]; done) | (have hc := liC_bd (aX := aX) (aY := aY) (bX := bX) (bY := bY) (by omega) (by omega) (by omega) (by omega) (by omega); rw [hl.2.2.2.2]; exact hc)
            · have hk := al2 aX aY bX bY; have hv : okP aX aY = true ∧ okP bX bY = true := (by simp_all); have hl := li_ok hv.1 hv.2 (by omega); first | omega | exact hl.1 | (have hs := lt_pos (dX := bX - aX) (dY := bY - aY) (by omega); simp only [hl.2.2.1, hl.2.2.2.1, hl.2.2.2.2, hs.1, hs.2]; done) | (have hs := lt_neg (dX := bX - aX) (dY := bY - aY) (by omega); simp only [hl.2.2.1, hl.2.2.2.1, hl.2.2.2.2, hs.1, hs.2]; done) | (have hc := liC_bd (aX := aX) (aY := aY) (bX := bX) (bY := bY) (by omega) (by omega) (by omega) (by omega) (by omega); rw [hl.2.2.2.2]; exact hc)
            · intro c20
              have hk := al2 aX aY bX bY; have hv : okP aX aY = true ∧ okP bX bY = true := (by simp_all); have hl := li_ok hv.1 hv.2 (by omega); first | omega | exact hl.1 | (have hs := lt_pos (dX := bX - aX) (dY := bY - aY) (by omega); simp only [hl.2.2.1, hl.2.2.2.1, hl.2.2.2.2, hs.1, hs.2]; done) | (have hs := lt_neg (dX := bX - aX) (dY := bY - aY) (by omega); simp only [hl.2.2.1, hl.2.2.2.1, hl.2.2.2.2, hs.1, hs.2]; done) | (have hc := liC_bd (aX := aX) (aY := aY) (bX := bX) (bY := bY) (by omega) (by omega) (by omega) (by omega) (by omega); rw [hl.2.2.2.2]; exact hc)
          · simp_all [liA, liB, liC, ltOK, orZ, al2]; done
def c_i_LineThrough (aX : Int) (aY : Int) (bX : Int) (bY : Int) : Cn Try.prog := ⟨_, _, _, _, _, i_LineThrough aX aY bX bY⟩
theorem spec_g (aX aY bX bY : Int) : gcdI (gcdI (bY - aY) (absI (aX - bX))) (absI ((bY - aY) * aX + (aX - bX) * aY)) = gcdI (bX - aX) (bY - aY) ∧
    gcdI (gcdI (0 - (bY - aY)) (absI (0 - (aX - bX)))) (absI (0 - ((bY - aY) * aX + (aX - bX) * aY))) = gcdI (bX - aX) (bY - aY) := by
  have e : aX - bX = 0 - (bX - aX) := by omega
  have e1 : gcdI (bY - aY) (aX - bX) = gcdI (bX - aX) (bY - aY) := by rw [e, gcdI_neg_r, gcdI_comm]
  have hd : gcdI (bX - aX) (bY - aY) ∣ (bY - aY) * aX + (aX - bX) * aY := by
    refine Int.dvd_add (Int.dvd_mul_of_dvd_left (gcdI_right _ _)) (Int.dvd_mul_of_dvd_left ?_)
    rw [e, Int.zero_sub]
    exact Int.dvd_neg.2 (gcdI_left _ _)
  have hg : 0 ≤ gcdI (bX - aX) (bY - aY) := by unfold gcdI; omega
  constructor
  · rw [gcdI_abs_right, gcdI_abs_right, e1]
    exact gcdI_of_dvd hg hd
  · rw [gcdI_abs_right, gcdI_abs_right, gcdI_neg_left, gcdI_neg_r, gcdI_neg_r, e1]
    exact gcdI_of_dvd hg hd
theorem spec_c {aX aY bX bY : Int} (hg : 1 ≤ gcdI (bX - aX) (bY - aY)) : Int.tdiv ((bY - aY) * aX + (aX - bX) * aY) (gcdI (bX - aX) (bY - aY)) = (bY - aY) / gcdI (bX - aX) (bY - aY) * aX - (bX - aX) / gcdI (bX - aX) (bY - aY) * aY := by
  have h1 := gcdI_right (bX - aX) (bY - aY)
  have h2 := gcdI_left (bX - aX) (bY - aY)
  generalize gcdI (bX - aX) (bY - aY) = g at *
  obtain ⟨u, hu⟩ := h1
  obtain ⟨v, hv⟩ := h2
  have e : aX - bX = g * (0 - v) := by rw [Int.mul_sub, ← hv]; omega
  have eC : (bY - aY) * aX + (aX - bX) * aY = g * (u * aX - v * aY) := by rw [hu, e]; grind
  rw [eC, hu, hv, Int.mul_ediv_cancel_left _ (by omega), Int.mul_ediv_cancel_left _ (by omega), Int.mul_tdiv_cancel_left _ (by omega)]
theorem spec_pos {aX aY bX bY : Int} (hne : aX ≠ bX ∨ aY ≠ bY) (h : bY - aY < 0 ∨ (bY - aY = 0 ∧ aX - bX < 0)) :
    Int.tdiv (0 - (bY - aY)) (gcdI (bX - aX) (bY - aY)) = ltA (bX - aX) (bY - aY) ∧ Int.tdiv (0 - (aX - bX)) (gcdI (bX - aX) (bY - aY)) = ltB (bX - aX) (bY - aY) ∧
    Int.tdiv (0 - ((bY - aY) * aX + (aX - bX) * aY)) (gcdI (bX - aX) (bY - aY)) = ltA (bX - aX) (bY - aY) * aX + ltB (bX - aX) (bY - aY) * aY := by
  have hs : ltS (bX - aX) (bY - aY) = true := by simp only [ltS, Bool.or_eq_true, Bool.and_eq_true, decide_eq_true_eq]; omega
  have hc := spec_c (g_pos (dX := bX - aX) (dY := bY - aY) (by omega))
  unfold ltA ltB
  rw [if_pos hs, if_pos hs, (tdiv_g (gcdI_right _ _)).2.2, show 0 - (aX - bX) = bX - aX by omega, (tdiv_g (gcdI_left _ _)).1, Int.zero_sub ((bY - aY) * aX + (aX - bX) * aY), Int.neg_tdiv, hc]
  refine ⟨rfl, rfl, ?_⟩
  rw [Int.neg_mul]; omega
theorem spec_neg {aX aY bX bY : Int} (hne : aX ≠ bX ∨ aY ≠ bY) (h : ¬ (bY - aY < 0 ∨ (bY - aY = 0 ∧ aX - bX < 0))) :
    Int.tdiv (bY - aY) (gcdI (bX - aX) (bY - aY)) = ltA (bX - aX) (bY - aY) ∧ Int.tdiv (aX - bX) (gcdI (bX - aX) (bY - aY)) = ltB (bX - aX) (bY - aY) ∧
    Int.tdiv ((bY - aY) * aX + (aX - bX) * aY) (gcdI (bX - aX) (bY - aY)) = ltA (bX - aX) (bY - aY) * aX + ltB (bX - aX) (bY - aY) * aY := by
  have hs : ¬ ltS (bX - aX) (bY - aY) = true := by simp only [ltS, Bool.or_eq_true, Bool.and_eq_true, decide_eq_true_eq]; omega
  have hc := spec_c (g_pos (dX := bX - aX) (dY := bY - aY) (by omega))
  unfold ltA ltB
  rw [if_neg hs, if_neg hs, (tdiv_g (gcdI_right _ _)).1, show aX - bX = 0 - (bX - aX) by omega, (tdiv_g (gcdI_left _ _)).2.2]
  rw [show aX - bX = 0 - (bX - aX) by omega] at hc
  refine ⟨rfl, rfl, ?_⟩
  rw [hc, Int.neg_mul]; omega
theorem s_lineThrough (aX : Int) (aY : Int) (bX : Int) (bY : Int) (hp : aX ≠ bX ∨ aY ≠ bY) : RunsTo Try.prog 133 [(.agg [(.int .i64 (.v fun _ => aX) (-1001) 1001), (.int .i64 (.v fun _ => aY) (-1001) 1001)]), (.agg [(.int .i64 (.v fun _ => bX) (-1001) 1001), (.int .i64 (.v fun _ => bY) (-1001) 1001)])] [] (.agg [(.int .i64 (.v fun _ => ltA (bX - aX) (bY - aY)) (-10000000) 10000000), (.int .i64 (.v fun _ => ltB (bX - aX) (bY - aY)) (-10000000) 10000000), (.int .i64 (.v fun _ => ltA (bX - aX) (bY - aY) * aX + ltB (bX - aX) (bY - aY) * aY) (-10000000) 10000000)]) [] := by
  refine RunsTo.go env Try.func133 rfl Try.call133 rfl rfl (fun _ _ => (.ite (.call (c_s_abs (0 - (aX - bX))) (.call (c_s_gcd (0 - (bY - aY)) (absI (0 - (aX - bX)))) (.callF (c_s_abs (0 - (((bY - aY) * aX) + ((aX - bX) * aY)))) (.callF (c_s_gcd (gcdI (0 - (bY - aY)) (absI (0 - (aX - bX)))) (absI (0 - (((bY - aY) * aX) + ((aX - bX) * aY))))) (.need (.need (.need .ret))))))) (.ite (.ite (.call (c_s_abs (0 - (aX - bX))) (.call (c_s_gcd (0 - (bY - aY)) (absI (0 - (aX - bX)))) (.callF (c_s_abs (0 - (((bY - aY) * aX) + ((aX - bX) * aY)))) (.callF (c_s_gcd (gcdI (0 - (bY - aY)) (absI (0 - (aX - bX)))) (absI (0 - (((bY - aY) * aX) + ((aX - bX) * aY))))) (.need (.need (.need .ret))))))) (.call (c_s_abs (aX - bX)) (.call (c_s_gcd (bY - aY) (absI (aX - bX))) (.callF (c_s_abs (((bY - aY) * aX) + ((aX - bX) * aY))) (.callF (c_s_gcd (gcdI (bY - aY) (absI (aX - bX))) (absI (((bY - aY) * aX) + ((aX - bX) * aY)))) (.need (.need (.need .ret)))))))) (.call (c_s_abs (aX - bX)) (.call (c_s_gcd (bY - aY) (absI (aX - bX))) (.callF (c_s_abs (((bY - aY) * aX) + ((aX - bX) * aY))) (.callF (c_s_gcd (gcdI (bY - aY) (absI (aX - bX))) (absI (((bY - aY) * aX) + ((aX - bX) * aY)))) (.need (.need (.need .ret)))))))))) (G := ((((-1001) ≤ aX ∧ aX ≤ 1001) ∧ ((-1001) ≤ aY ∧ aY ≤ 1001)) ∧ (((-1001) ≤ bX ∧ bX ≤ 1001) ∧ ((-1001) ≤ bY ∧ bY ≤ 1001))) → (True) → ((((bY - aY) < 0) → (((0 - (aX - bX)) = (0 - (aX - bX))) ∧ (((((0 - (bY - aY)) = (0 - (bY - aY))) ∧ (((-2002) ≤ (0 - (bY - aY)) ∧ (0 - (bY - aY)) ≤ 2002) → (0 ≤ (0 - (bY - aY)) ∧ (0 - (bY - aY)) ≤ 4000000000000000000))) ∧ ((absI (0 - (aX - bX))) = (absI (0 - (aX - bX))))) ∧ (((0 - (((bY - aY) * aX) + ((aX - bX) * aY))) = ((0 - (((bY - aY) * aX) + ((aX - bX) * aY))))) ∧ ((0 ≤ (absI (0 - (((bY - aY) * aX) + ((aX - bX) * aY)))) ∧ (absI (0 - (((bY - aY) * aX) + ((aX - bX) * aY)))) ≤ 4000000000000000000) → ((((gcdI (0 - (bY - aY)) (absI (0 - (aX - bX)))) = ((gcdI (0 - (bY - aY)) (absI (0 - (aX - bX)))))) ∧ ((absI (0 - (((bY - aY) * aX) + ((aX - bX) * aY)))) = ((absI (0 - (((bY - aY) * aX) + ((aX - bX) * aY))))))) ∧ ((0 ≤ (gcdI (gcdI (0 - (bY - aY)) (absI (0 - (aX - bX)))) (absI (0 - (((bY - aY) * aX) + ((aX - bX) * aY))))) ∧ (gcdI (gcdI (0 - (bY - aY)) (absI (0 - (aX - bX)))) (absI (0 - (((bY - aY) * aX) + ((aX - bX) * aY))))) ≤ 4000000000000000000) → (((gcdI (gcdI (0 - (bY - aY)) (absI (0 - (aX - bX)))) (absI (0 - (((bY - aY) * aX) + ((aX - bX) * aY))))) ≠ 0) ∧ (((gcdI (gcdI (0 - (bY - aY)) (absI (0 - (aX - bX)))) (absI (0 - (((bY - aY) * aX) + ((aX - bX) * aY))))) ≠ 0) ∧ (((gcdI (gcdI (0 - (bY - aY)) (absI (0 - (aX - bX)))) (absI (0 - (((bY - aY) * aX) + ((aX - bX) * aY))))) ≠ 0) ∧ (((Int.tdiv (0 - (bY - aY)) (gcdI (gcdI (0 - (bY - aY)) (absI (0 - (aX - bX)))) (absI (0 - (((bY - aY) * aX) + ((aX - bX) * aY)))))) = (ltA (bX - aX) (bY - aY))) ∧ (((Int.tdiv (0 - (aX - bX)) (gcdI (gcdI (0 - (bY - aY)) (absI (0 - (aX - bX)))) (absI (0 - (((bY - aY) * aX) + ((aX - bX) * aY)))))) = (ltB (bX - aX) (bY - aY))) ∧ ((Int.tdiv (0 - (((bY - aY) * aX) + ((aX - bX) * aY))) (gcdI (gcdI (0 - (bY - aY)) (absI (0 - (aX - bX)))) (absI (0 - (((bY - aY) * aX) + ((aX - bX) * aY)))))) = (ltA (bX - aX) (bY - aY) * aX + ltB (bX - aX) (bY - aY) * aY)))))))))))))) ∧ ((0 ≤ (bY - aY)) → ((((bY - aY) = 0) → ((((aX - bX) < 0) → (((0 - (aX - bX)) = (0 - (aX - bX))) ∧ (((((0 - (bY - aY)) = (0 - (bY - aY))) ∧ (((-2002) ≤ (0 - (bY - aY)) ∧ (0 - (bY - aY)) ≤ 2002) → (0 ≤ (0 - (bY - aY)) ∧ (0 - (bY - aY)) ≤ 4000000000000000000))) ∧ ((absI (0 - (aX - bX))) = (absI (0 - (aX - bX))))) ∧ (((0 - (((bY - aY) * aX) + ((aX - bX) * aY))) = ((0 - (((bY - aY) * aX) + ((aX - bX) * aY))))) ∧ ((0 ≤ (absI (0 - (((bY - aY) * aX) + ((aX - bX) * aY)))) ∧ (absI (0 - (((bY - aY) * aX) + ((aX - bX) * aY)))) ≤ 4000000000000000000) → ((((gcdI (0 - (bY - aY)) (absI (0 - (aX - bX)))) = ((gcdI (0 - (bY - aY)) (absI (0 - (aX - bX)))))) ∧ ((absI (0 - (((bY - aY) * aX) + ((aX - bX) * aY)))) = ((absI (0 - (((bY - aY) * aX) + ((aX - bX) * aY))))))) ∧ ((0 ≤ (gcdI (gcdI (0 - (bY - aY)) (absI (0 - (aX - bX)))) (absI (0 - (((bY - aY) * aX) + ((aX - bX) * aY))))) ∧ (gcdI (gcdI (0 - (bY - aY)) (absI (0 - (aX - bX)))) (absI (0 - (((bY - aY) * aX) + ((aX - bX) * aY))))) ≤ 4000000000000000000) → (((gcdI (gcdI (0 - (bY - aY)) (absI (0 - (aX - bX)))) (absI (0 - (((bY - aY) * aX) + ((aX - bX) * aY))))) ≠ 0) ∧ (((gcdI (gcdI (0 - (bY - aY)) (absI (0 - (aX - bX)))) (absI (0 - (((bY - aY) * aX) + ((aX - bX) * aY))))) ≠ 0) ∧ (((gcdI (gcdI (0 - (bY - aY)) (absI (0 - (aX - bX)))) (absI (0 - (((bY - aY) * aX) + ((aX - bX) * aY))))) ≠ 0) ∧ (((Int.tdiv (0 - (bY - aY)) (gcdI (gcdI (0 - (bY - aY)) (absI (0 - (aX - bX)))) (absI (0 - (((bY - aY) * aX) + ((aX - bX) * aY)))))) = (ltA (bX - aX) (bY - aY))) ∧ (((Int.tdiv (0 - (aX - bX)) (gcdI (gcdI (0 - (bY - aY)) (absI (0 - (aX - bX)))) (absI (0 - (((bY - aY) * aX) + ((aX - bX) * aY)))))) = (ltB (bX - aX) (bY - aY))) ∧ ((Int.tdiv (0 - (((bY - aY) * aX) + ((aX - bX) * aY))) (gcdI (gcdI (0 - (bY - aY)) (absI (0 - (aX - bX)))) (absI (0 - (((bY - aY) * aX) + ((aX - bX) * aY)))))) = (ltA (bX - aX) (bY - aY) * aX + ltB (bX - aX) (bY - aY) * aY)))))))))))))) ∧ ((0 ≤ (aX - bX)) → (((aX - bX) = (aX - bX)) ∧ (((((bY - aY) = (bY - aY)) ∧ (((-2002) ≤ (bY - aY) ∧ (bY - aY) ≤ 2002) → (0 ≤ (bY - aY) ∧ (bY - aY) ≤ 4000000000000000000))) ∧ ((absI (aX - bX)) = (absI (aX - bX)))) ∧ (((((bY - aY) * aX) + ((aX - bX) * aY)) = (((bY - aY) * aX) + ((aX - bX) * aY))) ∧ ((0 ≤ (absI (((bY - aY) * aX) + ((aX - bX) * aY))) ∧ (absI (((bY - aY) * aX) + ((aX - bX) * aY))) ≤ 4000000000000000000) → ((((gcdI (bY - aY) (absI (aX - bX))) = (gcdI (bY - aY) (absI (aX - bX)))) ∧ ((absI (((bY - aY) * aX) + ((aX - bX) * aY))) = ((absI (((bY - aY) * aX) + ((aX - bX) * aY)))))) ∧ ((0 ≤ (gcdI (gcdI (bY - aY) (absI (aX - bX))) (absI (((bY - aY) * aX) + ((aX - bX) * aY)))) ∧ (gcdI (gcdI (bY - aY) (absI (aX - bX))) (absI (((bY - aY) * aX) + ((aX - bX) * aY)))) ≤ 4000000000000000000) → (((gcdI (gcdI (bY - aY) (absI (aX - bX))) (absI (((bY - aY) * aX) + ((aX - bX) * aY)))) ≠ 0) ∧ (((gcdI (gcdI (bY - aY) (absI (aX - bX))) (absI (((bY - aY) * aX) + ((aX - bX) * aY)))) ≠ 0) ∧ (((gcdI (gcdI (bY - aY) (absI (aX - bX))) (absI (((bY - aY) * aX) + ((aX - bX) * aY)))) ≠ 0) ∧ (((Int.tdiv (bY - aY) (gcdI (gcdI (bY - aY) (absI (aX - bX))) (absI (((bY - aY) * aX) + ((aX - bX) * aY))))) = (ltA (bX - aX) (bY - aY))) ∧ (((Int.tdiv (aX - bX) (gcdI (gcdI (bY - aY) (absI (aX - bX))) (absI (((bY - aY) * aX) + ((aX - bX) * aY))))) = (ltB (bX - aX) (bY - aY))) ∧ ((Int.tdiv (((bY - aY) * aX) + ((aX - bX) * aY)) (gcdI (gcdI (bY - aY) (absI (aX - bX))) (absI (((bY - aY) * aX) + ((aX - bX) * aY))))) = (ltA (bX - aX) (bY - aY) * aX + ltB (bX - aX) (bY - aY) * aY)))))))))))))))) ∧ (((bY - aY) ≠ 0) → (((aX - bX) = (aX - bX)) ∧ (((((bY - aY) = (bY - aY)) ∧ (((-2002) ≤ (bY - aY) ∧ (bY - aY) ≤ 2002) → (0 ≤ (bY - aY) ∧ (bY - aY) ≤ 4000000000000000000))) ∧ ((absI (aX - bX)) = (absI (aX - bX)))) ∧ (((((bY - aY) * aX) + ((aX - bX) * aY)) = (((bY - aY) * aX) + ((aX - bX) * aY))) ∧ ((0 ≤ (absI (((bY - aY) * aX) + ((aX - bX) * aY))) ∧ (absI (((bY - aY) * aX) + ((aX - bX) * aY))) ≤ 4000000000000000000) → ((((gcdI (bY - aY) (absI (aX - bX))) = (gcdI (bY - aY) (absI (aX - bX)))) ∧ ((absI (((bY - aY) * aX) + ((aX - bX) * aY))) = ((absI (((bY - aY) * aX) + ((aX - bX) * aY)))))) ∧ ((0 ≤ (gcdI (gcdI (bY - aY) (absI (aX - bX))) (absI (((bY - aY) * aX) + ((aX - bX) * aY)))) ∧ (gcdI (gcdI (bY - aY) (absI (aX - bX))) (absI (((bY - aY) * aX) + ((aX - bX) * aY)))) ≤ 4000000000000000000) → (((gcdI (gcdI (bY - aY) (absI (aX - bX))) (absI (((bY - aY) * aX) + ((aX - bX) * aY)))) ≠ 0) ∧ (((gcdI (gcdI (bY - aY) (absI (aX - bX))) (absI (((bY - aY) * aX) + ((aX - bX) * aY)))) ≠ 0) ∧ (((gcdI (gcdI (bY - aY) (absI (aX - bX))) (absI (((bY - aY) * aX) + ((aX - bX) * aY)))) ≠ 0) ∧ (((Int.tdiv (bY - aY) (gcdI (gcdI (bY - aY) (absI (aX - bX))) (absI (((bY - aY) * aX) + ((aX - bX) * aY))))) = (ltA (bX - aX) (bY - aY))) ∧ (((Int.tdiv (aX - bX) (gcdI (gcdI (bY - aY) (absI (aX - bX))) (absI (((bY - aY) * aX) + ((aX - bX) * aY))))) = (ltB (bX - aX) (bY - aY))) ∧ ((Int.tdiv (((bY - aY) * aX) + ((aX - bX) * aY)) (gcdI (gcdI (bY - aY) (absI (aX - bX))) (absI (((bY - aY) * aX) + ((aX - bX) * aY))))) = (ltA (bX - aX) (bY - aY) * aX + ltB (bX - aX) (bY - aY) * aY)))))))))))))))))) (by kernel_rfl) ?_
  intro h1 h2
  have hsg := spec_g aX aY bX bY
  have hgp := g_pos (dX := bX - aX) (dY := bY - aY) (by omega)
  refine ⟨?_, ?_⟩
  · intro c1
    refine ⟨rfl, ?_, rfl, ?_⟩
    · refine ⟨?_, rfl⟩
      refine ⟨rfl, ?_⟩
      intro c2
      omega
    · intro c3
      refine ⟨⟨rfl, rfl⟩, ?_⟩
      intro c4
      refine ⟨?_, ?_, ?_, ?_, ?_, ?_⟩
      · omega
      · omega
      · omega
      · have hs := spec_pos (aX := aX) (aY := aY) (bX := bX) (bY := bY) hp (by omega); rw [hsg.2]; first | exact hs.1 | exact hs.2.1 | exact hs.2.2
      · have hs := spec_pos (aX := aX) (aY := aY) (bX := bX) (bY := bY) hp (by omega); rw [hsg.2]; first | exact hs.1 | exact hs.2.1 | exact hs.2.2
      · have hs := spec_pos (aX := aX) (aY := aY) (bX := bX) (bY := bY) hp (by omega); rw [hsg.2]; first | exact hs.1 | exact hs.2.1 | exact hs.2.2
  · intro c5
    refine ⟨?_, ?_⟩
    · intro c6
      refine ⟨?_, ?_⟩
      · intro c7
        refine ⟨rfl, ?_, rfl, ?_⟩
        · refine ⟨?_, rfl⟩
          refine ⟨rfl, ?_⟩
          intro c8
          omega
        · intro c9
          refine ⟨⟨rfl, rfl⟩, ?_⟩
          intro c10
          refine ⟨?_, ?_, ?_, ?_, ?_, ?_⟩
          · omega
          · omega
          · omega
          · have hs := spec_pos (aX := aX) (aY := aY) (bX := bX) (bY := bY) hp (by omega); rw [hsg.2]; first | exact hs.1 | exact hs.2.1 | exact hs.2.2
          · have hs := spec_pos (aX := aX) (aY := aY) (bX := bX) (bY := bY) hp (by omega); rw [hsg.2]; first | exact hs.1 | exact hs.2.1 | exact hs.2.2
          · have hs := spec_pos (aX := aX) (aY := aY) (bX := bX) (bY := bY) hp (by omega); rw [hsg.2]; first | exact hs.1 | exact hs.2.1 | exact hs.2.2
      · intro c11
        refine ⟨rfl, ?_, rfl, ?_⟩
        · refine ⟨?_, rfl⟩
          refine ⟨rfl, ?_⟩
          intro c12
          omega
        · intro c13
          refine ⟨⟨rfl, rfl⟩, ?_⟩
          intro c14
          refine ⟨?_, ?_, ?_, ?_, ?_, ?_⟩
          · omega
          · omega
          · omega
          · have hs := spec_neg (aX := aX) (aY := aY) (bX := bX) (bY := bY) hp (by omega); rw [hsg.1]; first | exact hs.1 | exact hs.2.1 | exact hs.2.2
          · have hs := spec_neg (aX := aX) (aY := aY) (bX := bX) (bY := bY) hp (by omega); rw [hsg.1]; first | exact hs.1 | exact hs.2.1 | exact hs.2.2
          · have hs := spec_neg (aX := aX) (aY := aY) (bX := bX) (bY := bY) hp (by omega); rw [hsg.1]; first | exact hs.1 | exact hs.2.1 | exact hs.2.2
    · intro c15
      refine ⟨rfl, ?_, rfl, ?_⟩
      · refine ⟨?_, rfl⟩
        refine ⟨rfl, ?_⟩
        intro c16
        omega
      · intro c17
        refine ⟨⟨rfl, rfl⟩, ?_⟩
        intro c18
        refine ⟨?_, ?_, ?_, ?_, ?_, ?_⟩
        · omega
        · omega
        · omega
        · have hs := spec_neg (aX := aX) (aY := aY) (bX := bX) (bY := bY) hp (by omega); rw [hsg.1]; first | exact hs.1 | exact hs.2.1 | exact hs.2.2
        · have hs := spec_neg (aX := aX) (aY := aY) (bX := bX) (bY := bY) hp (by omega); rw [hsg.1]; first | exact hs.1 | exact hs.2.1 | exact hs.2.2
        · have hs := spec_neg (aX := aX) (aY := aY) (bX := bX) (bY := bY) hp (by omega); rw [hsg.1]; first | exact hs.1 | exact hs.2.1 | exact hs.2.2
def c_s_lineThrough (aX : Int) (aY : Int) (bX : Int) (bY : Int) : CnH Try.prog := ⟨_, _, _, _, _, _, s_lineThrough aX aY bX bY⟩
end Go.Proofs.Ytoielngedkbmbaa
