/- FnDistribute: the walk. -/
import Derived.Test.YtndkhbilefljnaaK13
set_option linter.unusedSimpArgs false
set_option linter.unusedVariables false
set_option maxRecDepth 100000
namespace Go.Proofs.Ytndkhbilefljnaa
open Go.Sym
theorem distr {a0 a1 b0 b1 c0 c1 : Int} (ha : okR a0 a1 = true) (hb : okR b0 b1 = true) (hc : okR c0 c1 = true) (sa : -1000 ≤ a0 ∧ a0 ≤ 1000) (sb : -1000 ≤ b0 ∧ b0 ≤ 1000) (sc : -1000 ≤ c0 ∧ c0 ≤ 1000) (ta : a1 ≤ 100) (tb : b1 ≤ 100) (tc : c1 ≤ 100) (hm : mulOK a0 a1 b0 b1 = true) :
    (addOK b0 b1 c0 c1 = true ∧ mulOK a0 a1 (addN b0 b1 c0 c1) (addD b0 b1 c0 c1) = true ∧ mulOK a0 a1 c0 c1 = true ∧ addOK (mulN a0 a1 b0 b1) (mulD a0 a1 b0 b1) (mulN a0 a1 c0 c1) (mulD a0 a1 c0 c1) = true) ∧
    mulN a0 a1 (addN b0 b1 c0 c1) (addD b0 b1 c0 c1) = addN (mulN a0 a1 b0 b1) (mulD a0 a1 b0 b1) (mulN a0 a1 c0 c1) (mulD a0 a1 c0 c1) ∧
    mulD a0 a1 (addN b0 b1 c0 c1) (addD b0 b1 c0 c1) = addD (mulN a0 a1 b0 b1) (mulD a0 a1 b0 b1) (mulN a0 a1 c0 c1) (mulD a0 a1 c0 c1) := by
  have oa := okR_bd ha
  have ob := okR_bd hb
  have oc := okR_bd hc
  have m1 := mul_bd b0 c1 1000 100 (by omega) (by omega) (by omega) (by omega)
  have m2 := mul_bd c0 b1 1000 100 (by omega) (by omega) (by omega) (by omega)
  have m3 := mul_bd b1 c1 100 100 (by omega) (by omega) (by omega) (by omega)
  have m4 : 1 * 1 ≤ b1 * c1 := Int.mul_le_mul ob.2.1.1 oc.2.1.1 (by decide) (by omega)
  have h1 : addOK b0 b1 c0 c1 = true := add_ok_of hb hc (by omega) (by omega)
  obtain ⟨hs, e1⟩ := add_facts h1
  have os := okR_bd hs
  have sS : -200000 ≤ addN b0 b1 c0 c1 ∧ addN b0 b1 c0 c1 ≤ 200000 := by
    unfold addN orZ; rw [if_pos h1]; exact redN_bd _ _ _ (by omega) (by omega) (by omega)
  have sT : addD b0 b1 c0 c1 ≤ 10000 := by
    unfold addD orZ; rw [if_pos h1]; exact (redD_bd _ _ 10000 (by omega) (by omega)).2
  generalize addN b0 b1 c0 c1 = S at *
  generalize addD b0 b1 c0 c1 = T at *
  have m5 := mul_bd T a1 10000 100 (by omega) (by omega) (by omega) (by omega)
  have h2 : mulOK a0 a1 S T = true := mul_ok_of ha hs (P := 1000) (Q := 200000) (by omega) (by omega) (by decide) (by decide) (by decide) (by omega)
  have m6 := mul_bd c1 a1 100 100 (by omega) (by omega) (by omega) (by omega)
  have h3 : mulOK a0 a1 c0 c1 = true := mul_ok_of ha hc (P := 1000) (Q := 1000) (by omega) (by omega) (by decide) (by decide) (by decide) (by omega)
  obtain ⟨hL, e2⟩ := mul_facts h2
  obtain ⟨hX, e3⟩ := mul_facts hm
  obtain ⟨hZ, e4⟩ := mul_facts h3
  generalize mulN a0 a1 S T = L at *
  generalize mulD a0 a1 S T = M at *
  generalize mulN a0 a1 b0 b1 = X at *
  generalize mulD a0 a1 b0 b1 = Y at *
  generalize mulN a0 a1 c0 c1 = Z at *
  generalize mulD a0 a1 c0 c1 = W at *
  have oL := okR_bd hL
  have oX := okR_bd hX
  have oZ := okR_bd hZ
  have k : a1 * b1 * c1 * T ≠ 0 := by
    refine Int.mul_ne_zero (Int.mul_ne_zero (Int.mul_ne_zero ?_ ?_) ?_) ?_ <;> omega
  have hp := poly a0 a1 b0 b1 c0 c1 S T L M X Y Z W k e1 e2 e3 e4
  have hYW : 1 * 1 ≤ Y * W := Int.mul_le_mul oX.2.1.1 oZ.2.1.1 (by decide) (by omega)
  have rv := red_val (X * W + Z * Y) (Y * W) (by omega)
  have rc := red_cop (X * W + Z * Y) (Y * W) (by omega)
  have hR1 : 1 ≤ redD (X * W + Z * Y) (Y * W) := by
    have := redD_bd (X * W + Z * Y) (Y * W) (Y * W) (by omega) (Int.le_refl _); exact this.1
  generalize hR : redN (X * W + Z * Y) (Y * W) = R at *
  generalize hV : redD (X * W + Z * Y) (Y * W) = V at *
  have hcross : R * M = L * V := by
    refine Int.eq_of_mul_eq_mul_right (show Y * W ≠ 0 by omega) ?_
    have g1 : R * M * (Y * W) = (R * (Y * W)) * M := by grind
    have g2 : L * V * (Y * W) = L * (Y * W) * V := by grind
    rw [g1, rv, g2, ← hp]
    grind
  obtain ⟨q1, q2⟩ := same_frac hR1 oL.2.1.1 rc oL.2.2 hcross
  have h4 : addOK X Y Z W = true := by
    unfold addOK
    rw [hR, hV, hX, hZ, q1, q2, hL]
    rfl
  refine ⟨⟨h1, h2, h3, h4⟩, ?_, ?_⟩
  · unfold addN orZ; rw [if_pos h4, hR]; exact q1.symm
  · unfold addD orZ; rw [if_pos h4, hV]; exact q2.symm
theorem mulOK_ok {a0 a1 b0 b1 : Int} (h : mulOK a0 a1 b0 b1 = true) : okR a0 a1 = true ∧ okR b0 b1 = true := by
  unfold mulOK at h
  simp only [Bool.and_eq_true] at h
  exact ⟨h.1, h.2.1⟩
theorem absI_le {x M : Int} (h : absI x ≤ M) : -M ≤ x ∧ x ≤ M := by unfold absI at h; omega
theorem l_FnDistribute (C : Int → Int) (n : Int) (D : Int → Int) (m : Int) : RunsTo Try.prog 3 [(.sl 0 1 (.lit 0) (.v fun _ => n) 9223372036854775807), (.sl 1 1 (.lit 0) (.v fun _ => m) 9223372036854775807)] [some ⟨5, 1, false, (.sym (.v fun _ => n) fun e => [(.int .u8 (.v fun _ => (C (e.den))) 0 255)])⟩, some ⟨5, 1, false, (.sym (.v fun _ => m) fun e => [(.int .u8 (.v fun _ => (D (e.den))) 0 255)])⟩] (.bool (.lit true)) [none, none] := by
  refine RunsTo.go env Try.func3 rfl Try.call3 rfl rfl (fun _ _ => (.ite .ret (.ite .ret (.call (c_s_DrawMulRats C n) (.call (c_i_MulRats (f1N C n) (f1D C n) (f2N C n) (f2D C n)) (.call (c_s_MulRats (f1N C n) (f1D C n) (f2N C n) (f2D C n)) (.call (c_s_DrawAddRats D m) (.ite (.ite .ret .ret) (.ite (.ite .ret .ret) (.ite (.ite .ret .ret) (.call (c_i_ValidRat (f1N D m) (f1D D m)) (.ite (.ite .ret .ret) (.call (c_l_size (f1N C n)) (.ite (.ite .ret .ret) (.call (c_l_size (f2N C n)) (.ite (.ite .ret .ret) (.call (c_l_size (f1N D m)) (.ite (.ite .ret .ret) (.ite (.ite .ret .ret) (.ite (.ite .ret .ret) (.ite (.ite .ret .ret) (.call (c_i_AddRats (f2N C n) (f2D C n) (f1N D m) (f1D D m)) (.call (c_i_MulRats (f1N C n) (f1D C n) (addN (f2N C n) (f2D C n) (f1N D m) (f1D D m)) (addD (f2N C n) (f2D C n) (f1N D m) (f1D D m))) (.call (c_i_MulRats (f1N C n) (f1D C n) (f1N D m) (f1D D m)) (.call (c_i_AddRats (mulN (f1N C n) (f1D C n) (f2N C n) (f2D C n)) (mulD (f1N C n) (f1D C n) (f2N C n) (f2D C n)) (mulN (f1N C n) (f1D C n) (f1N D m) (f1D D m)) (mulD (f1N C n) (f1D C n) (f1N D m) (f1D D m))) (.ite (.ite (.ite (.ite .ret .ret) .ret) .ret) .ret)))))))))))))))))))))))))) (G := ((0 ≤ n ∧ n ≤ 9223372036854775807) ∧ (0 ≤ m ∧ m ≤ 9223372036854775807)) → ((∀ e4 : E, ((0 ≤ e4.den ∧ e4.den < n) → (0 ≤ ((C (e4.den))) ∧ ((C (e4.den))) ≤ 255))) ∧ (∀ e3 : E, ((0 ≤ e3.den ∧ e3.den < m) → (0 ≤ ((D (e3.den))) ∧ ((D (e3.den))) ≤ 255)))) → ((n ≤ 1048576) → ((m ≤ 1048576) → ((n = n) ∧ (((n ≤ n) ∧ (∀ e1 : E, ((0 ≤ e1.den ∧ e1.den < n) → (((C (e1.den))) = ((C (e1.den))))))) ∧ (((((f1N C n) = (f1N C n)) ∧ ((f1D C n) = (f1D C n))) ∧ (((f2N C n) = (f2N C n)) ∧ ((f2D C n) = (f2D C n)))) ∧ (((((f1N C n) = (f1N C n)) ∧ ((f1D C n) = (f1D C n))) ∧ (((f2N C n) = (f2N C n)) ∧ ((f2D C n) = (f2D C n)))) ∧ ((m = m) ∧ (((m ≤ m) ∧ (∀ e2 : E, ((0 ≤ e2.den ∧ e2.den < m) → (((D (e2.den))) = ((D (e2.den))))))) ∧ ((((((mulOK (f1N C n) (f1D C n) (f2N C n) (f2D C n)) = true) ↔ ((mulOK (f1N C n) (f1D C n) (f2N C n) (f2D C n)) = false))) → ((((((mulOK (f1N C n) (f1D C n) (f2N C n) (f2D C n)) = true) ↔ ((mulOK (f1N C n) (f1D C n) (f2N C n) (f2D C n)) = true))) → ((((mulN (f1N C n) (f1D C n) (f2N C n) (f2D C n)) = (mulN (f1N C n) (f1D C n) (f2N C n) (f2D C n))) ∧ ((mulD (f1N C n) (f1D C n) (f2N C n) (f2D C n)) = (mulD (f1N C n) (f1D C n) (f2N C n) (f2D C n)))))) ∧ (((((mulOK (f1N C n) (f1D C n) (f2N C n) (f2D C n)) = true) ↔ ((mulOK (f1N C n) (f1D C n) (f2N C n) (f2D C n)) = false))) → (False)))) ∧ (((((mulOK (f1N C n) (f1D C n) (f2N C n) (f2D C n)) = true) ↔ ((mulOK (f1N C n) (f1D C n) (f2N C n) (f2D C n)) = true))) → ((((((mulN (f1N C n) (f1D C n) (f2N C n) (f2D C n)) ≠ (mulN (f1N C n) (f1D C n) (f2N C n) (f2D C n))) ∨ ((mulD (f1N C n) (f1D C n) (f2N C n) (f2D C n)) ≠ (mulD (f1N C n) (f1D C n) (f2N C n) (f2D C n))))) → ((((((mulOK (f1N C n) (f1D C n) (f2N C n) (f2D C n)) = true) ↔ ((mulOK (f1N C n) (f1D C n) (f2N C n) (f2D C n)) = true))) → ((((mulN (f1N C n) (f1D C n) (f2N C n) (f2D C n)) = (mulN (f1N C n) (f1D C n) (f2N C n) (f2D C n))) ∧ ((mulD (f1N C n) (f1D C n) (f2N C n) (f2D C n)) = (mulD (f1N C n) (f1D C n) (f2N C n) (f2D C n)))))) ∧ (((((mulOK (f1N C n) (f1D C n) (f2N C n) (f2D C n)) = true) ↔ ((mulOK (f1N C n) (f1D C n) (f2N C n) (f2D C n)) = false))) → (False)))) ∧ (((((mulN (f1N C n) (f1D C n) (f2N C n) (f2D C n)) = (mulN (f1N C n) (f1D C n) (f2N C n) (f2D C n))) ∧ ((mulD (f1N C n) (f1D C n) (f2N C n) (f2D C n)) = (mulD (f1N C n) (f1D C n) (f2N C n) (f2D C n))))) → ((((mulOK (f1N C n) (f1D C n) (f2N C n) (f2D C n)) = false) → ((((((mulOK (f1N C n) (f1D C n) (f2N C n) (f2D C n)) = true) ↔ ((mulOK (f1N C n) (f1D C n) (f2N C n) (f2D C n)) = true))) → ((((mulN (f1N C n) (f1D C n) (f2N C n) (f2D C n)) = (mulN (f1N C n) (f1D C n) (f2N C n) (f2D C n))) ∧ ((mulD (f1N C n) (f1D C n) (f2N C n) (f2D C n)) = (mulD (f1N C n) (f1D C n) (f2N C n) (f2D C n)))))) ∧ (((((mulOK (f1N C n) (f1D C n) (f2N C n) (f2D C n)) = true) ↔ ((mulOK (f1N C n) (f1D C n) (f2N C n) (f2D C n)) = false))) → (False)))) ∧ (((mulOK (f1N C n) (f1D C n) (f2N C n) (f2D C n)) = true) → ((((f1N D m) = (f1N D m)) ∧ ((f1D D m) = (f1D D m))) ∧ ((((okR (f1N D m) (f1D D m)) = false) → ((((((mulOK (f1N C n) (f1D C n) (f2N C n) (f2D C n)) = true) ↔ ((mulOK (f1N C n) (f1D C n) (f2N C n) (f2D C n)) = true))) → ((((mulN (f1N C n) (f1D C n) (f2N C n) (f2D C n)) = (mulN (f1N C n) (f1D C n) (f2N C n) (f2D C n))) ∧ ((mulD (f1N C n) (f1D C n) (f2N C n) (f2D C n)) = (mulD (f1N C n) (f1D C n) (f2N C n) (f2D C n)))))) ∧ (((((mulOK (f1N C n) (f1D C n) (f2N C n) (f2D C n)) = true) ↔ ((mulOK (f1N C n) (f1D C n) (f2N C n) (f2D C n)) = false))) → (False)))) ∧ (((okR (f1N D m) (f1D D m)) = true) → (((f1N C n) = (f1N C n)) ∧ (((1000 < (absI (f1N C n))) → ((((((mulOK (f1N C n) (f1D C n) (f2N C n) (f2D C n)) = true) ↔ ((mulOK (f1N C n) (f1D C n) (f2N C n) (f2D C n)) = true))) → ((((mulN (f1N C n) (f1D C n) (f2N C n) (f2D C n)) = (mulN (f1N C n) (f1D C n) (f2N C n) (f2D C n))) ∧ ((mulD (f1N C n) (f1D C n) (f2N C n) (f2D C n)) = (mulD (f1N C n) (f1D C n) (f2N C n) (f2D C n)))))) ∧ (((((mulOK (f1N C n) (f1D C n) (f2N C n) (f2D C n)) = true) ↔ ((mulOK (f1N C n) (f1D C n) (f2N C n) (f2D C n)) = false))) → (False)))) ∧ (((absI (f1N C n)) ≤ 1000) → (((f2N C n) = (f2N C n)) ∧ (((1000 < (absI (f2N C n))) → ((((((mulOK (f1N C n) (f1D C n) (f2N C n) (f2D C n)) = true) ↔ ((mulOK (f1N C n) (f1D C n) (f2N C n) (f2D C n)) = true))) → ((((mulN (f1N C n) (f1D C n) (f2N C n) (f2D C n)) = (mulN (f1N C n) (f1D C n) (f2N C n) (f2D C n))) ∧ ((mulD (f1N C n) (f1D C n) (f2N C n) (f2D C n)) = (mulD (f1N C n) (f1D C n) (f2N C n) (f2D C n)))))) ∧ (((((mulOK (f1N C n) (f1D C n) (f2N C n) (f2D C n)) = true) ↔ ((mulOK (f1N C n) (f1D C n) (f2N C n) (f2D C n)) = false))) → (False)))) ∧ (((absI (f2N C n)) ≤ 1000) → (((f1N D m) = (f1N D m)) ∧ (((1000 < (absI (f1N D m))) → ((((((mulOK (f1N C n) (f1D C n) (f2N C n) (f2D C n)) = true) ↔ ((mulOK (f1N C n) (f1D C n) (f2N C n) (f2D C n)) = true))) → ((((mulN (f1N C n) (f1D C n) (f2N C n) (f2D C n)) = (mulN (f1N C n) (f1D C n) (f2N C n) (f2D C n))) ∧ ((mulD (f1N C n) (f1D C n) (f2N C n) (f2D C n)) = (mulD (f1N C n) (f1D C n) (f2N C n) (f2D C n)))))) ∧ (((((mulOK (f1N C n) (f1D C n) (f2N C n) (f2D C n)) = true) ↔ ((mulOK (f1N C n) (f1D C n) (f2N C n) (f2D C n)) = false))) → (False)))) ∧ (((absI (f1N D m)) ≤ 1000) → (((100 < (f1D C n)) → ((((((mulOK (f1N C n) (f1D C n) (f2N C n) (f2D C n)) = true) ↔ ((mulOK (f1N C n) (f1D C n) (f2N C n) (f2D C n)) = true))) → ((((mulN (f1N C n) (f1D C n) (f2N C n) (f2D C n)) = (mulN (f1N C n) (f1D C n) (f2N C n) (f2D C n))) ∧ ((mulD (f1N C n) (f1D C n) (f2N C n) (f2D C n)) = (mulD (f1N C n) (f1D C n) (f2N C n) (f2D C n)))))) ∧ (((((mulOK (f1N C n) (f1D C n) (f2N C n) (f2D C n)) = true) ↔ ((mulOK (f1N C n) (f1D C n) (f2N C n) (f2D C n)) = false))) → (False)))) ∧ (((f1D C n) ≤ 100) → (((100 < (f2D C n)) → ((((((mulOK (f1N C n) (f1D C n) (f2N C n) (f2D C n)) = true) ↔ ((mulOK (f1N C n) (f1D C n) (f2N C n) (f2D C n)) = true))) → ((((mulN (f1N C n) (f1D C n) (f2N C n) (f2D C n)) = (mulN (f1N C n) (f1D C n) (f2N C n) (f2D C n))) ∧ ((mulD (f1N C n) (f1D C n) (f2N C n) (f2D C n)) = (mulD (f1N C n) (f1D C n) (f2N C n) (f2D C n)))))) ∧ (((((mulOK (f1N C n) (f1D C n) (f2N C n) (f2D C n)) = true) ↔ ((mulOK (f1N C n) (f1D C n) (f2N C n) (f2D C n)) = false))) → (False)))) ∧ (((f2D C n) ≤ 100) → (((100 < (f1D D m)) → ((((((mulOK (f1N C n) (f1D C n) (f2N C n) (f2D C n)) = true) ↔ ((mulOK (f1N C n) (f1D C n) (f2N C n) (f2D C n)) = true))) → ((((mulN (f1N C n) (f1D C n) (f2N C n) (f2D C n)) = (mulN (f1N C n) (f1D C n) (f2N C n) (f2D C n))) ∧ ((mulD (f1N C n) (f1D C n) (f2N C n) (f2D C n)) = (mulD (f1N C n) (f1D C n) (f2N C n) (f2D C n)))))) ∧ (((((mulOK (f1N C n) (f1D C n) (f2N C n) (f2D C n)) = true) ↔ ((mulOK (f1N C n) (f1D C n) (f2N C n) (f2D C n)) = false))) → (False)))) ∧ (((f1D D m) ≤ 100) → (((((f2N C n) = (f2N C n)) ∧ ((f2D C n) = (f2D C n))) ∧ (((f1N D m) = (f1N D m)) ∧ ((f1D D m) = (f1D D m)))) ∧ (((((f1N C n) = (f1N C n)) ∧ ((f1D C n) = (f1D C n))) ∧ (((addN (f2N C n) (f2D C n) (f1N D m) (f1D D m)) = (addN (f2N C n) (f2D C n) (f1N D m) (f1D D m))) ∧ ((addD (f2N C n) (f2D C n) (f1N D m) (f1D D m)) = (addD (f2N C n) (f2D C n) (f1N D m) (f1D D m))))) ∧ (((((f1N C n) = (f1N C n)) ∧ ((f1D C n) = (f1D C n))) ∧ (((f1N D m) = (f1N D m)) ∧ ((f1D D m) = (f1D D m)))) ∧ (((((mulN (f1N C n) (f1D C n) (f2N C n) (f2D C n)) = (mulN (f1N C n) (f1D C n) (f2N C n) (f2D C n))) ∧ ((mulD (f1N C n) (f1D C n) (f2N C n) (f2D C n)) = (mulD (f1N C n) (f1D C n) (f2N C n) (f2D C n)))) ∧ (((mulN (f1N C n) (f1D C n) (f1N D m) (f1D D m)) = (mulN (f1N C n) (f1D C n) (f1N D m) (f1D D m))) ∧ ((mulD (f1N C n) (f1D C n) (f1N D m) (f1D D m)) = (mulD (f1N C n) (f1D C n) (f1N D m) (f1D D m))))) ∧ ((((addOK (f2N C n) (f2D C n) (f1N D m) (f1D D m)) = true) → ((((mulOK (f1N C n) (f1D C n) (addN (f2N C n) (f2D C n) (f1N D m) (f1D D m)) (addD (f2N C n) (f2D C n) (f1N D m) (f1D D m))) = true) → ((((mulOK (f1N C n) (f1D C n) (f1N D m) (f1D D m)) = true) → ((((addOK (mulN (f1N C n) (f1D C n) (f2N C n) (f2D C n)) (mulD (f1N C n) (f1D C n) (f2N C n) (f2D C n)) (mulN (f1N C n) (f1D C n) (f1N D m) (f1D D m)) (mulD (f1N C n) (f1D C n) (f1N D m) (f1D D m))) = true) → ((((mulN (f1N C n) (f1D C n) (addN (f2N C n) (f2D C n) (f1N D m) (f1D D m)) (addD (f2N C n) (f2D C n) (f1N D m) (f1D D m))) = (addN (mulN (f1N C n) (f1D C n) (f2N C n) (f2D C n)) (mulD (f1N C n) (f1D C n) (f2N C n) (f2D C n)) (mulN (f1N C n) (f1D C n) (f1N D m) (f1D D m)) (mulD (f1N C n) (f1D C n) (f1N D m) (f1D D m)))) ∧ ((mulD (f1N C n) (f1D C n) (addN (f2N C n) (f2D C n) (f1N D m) (f1D D m)) (addD (f2N C n) (f2D C n) (f1N D m) (f1D D m))) = (addD (mulN (f1N C n) (f1D C n) (f2N C n) (f2D C n)) (mulD (f1N C n) (f1D C n) (f2N C n) (f2D C n)) (mulN (f1N C n) (f1D C n) (f1N D m) (f1D D m)) (mulD (f1N C n) (f1D C n) (f1N D m) (f1D D m))))))) ∧ (((addOK (mulN (f1N C n) (f1D C n) (f2N C n) (f2D C n)) (mulD (f1N C n) (f1D C n) (f2N C n) (f2D C n)) (mulN (f1N C n) (f1D C n) (f1N D m) (f1D D m)) (mulD (f1N C n) (f1D C n) (f1N D m) (f1D D m))) = false) → (False)))) ∧ (((mulOK (f1N C n) (f1D C n) (f1N D m) (f1D D m)) = false) → (False)))) ∧ (((mulOK (f1N C n) (f1D C n) (addN (f2N C n) (f2D C n) (f1N D m) (f1D D m)) (addD (f2N C n) (f2D C n) (f1N D m) (f1D D m))) = false) → (False)))) ∧ (((addOK (f2N C n) (f2D C n) (f1N D m) (f1D D m)) = false) → (False)))))))))))))))))))))))))))))))))))))))) (by kernel_rfl) ?_
  intro h1 h2
  intro c5
  intro c6
  refine ⟨rfl, ⟨Int.le_refl _, fun _ => fun _ => rfl⟩, ⟨⟨rfl, rfl⟩, ⟨rfl, rfl⟩⟩, ⟨⟨rfl, rfl⟩, ⟨rfl, rfl⟩⟩, rfl, ⟨Int.le_refl _, fun _ => fun _ => rfl⟩, ?_, ?_⟩
  · intro c7
    refine ⟨?_, ?_⟩
    · intro c8
      -- 1: (((mulN (f1N C n) (f1D C n) (f2N C n) (f2D C n)) = (mulN (f1N C n) (f1D C n) (f2N C n) (f2D C n))) ∧
      first | rfl | omega | (have hm : mulOK (f1N C n) (f1D C n) (f2N C n) (f2D C n) = true := (by assumption); have hd := distr (mulOK_ok hm).1 (mulOK_ok hm).2 (show okR (f1N D m) (f1D D m) = true by assumption) (absI_le (M := 1000) (by omega)) (absI_le (M := 1000) (by omega)) (absI_le (M := 1000) (by omega)) (by omega) (by omega) (by omega) hm; first | exact ⟨hd.2.1, hd.2.2⟩ | exact hd.1.1 | exact hd.1.2.1 | exact hd.1.2.2.1 | exact hd.1.2.2.2 | exact hd.2.1 | exact hd.2.2 | (simp_all; done)) | (simp_all; done)
    · intro c9
      -- 2: False
      first | rfl | omega | (have hm : mulOK (f1N C n) (f1D C n) (f2N C n) (f2D C n) = true := (by assumption); have hd := distr (mulOK_ok hm).1 (mulOK_ok hm).2 (show okR (f1N D m) (f1D D m) = true by assumption) (absI_le (M := 1000) (by omega)) (absI_le (M := 1000) (by omega)) (absI_le (M := 1000) (by omega)) (by omega) (by omega) (by omega) hm; first | exact ⟨hd.2.1, hd.2.2⟩ | exact hd.1.1 | exact hd.1.2.1 | exact hd.1.2.2.1 | exact hd.1.2.2.2 | exact hd.2.1 | exact hd.2.2 | (simp_all; done)) | (simp_all; done)
  · intro c10
    refine ⟨?_, ?_⟩
    · intro c11
      refine ⟨?_, ?_⟩
      · intro c12
        -- 3: (((mulN (f1N C n) (f1D C n) (f2N C n) (f2D C n)) = (mulN (f1N C n) (f1D C n) (f2N C n) (f2D C n))) ∧
        first | rfl | omega | (have hm : mulOK (f1N C n) (f1D C n) (f2N C n) (f2D C n) = true := (by assumption); have hd := distr (mulOK_ok hm).1 (mulOK_ok hm).2 (show okR (f1N D m) (f1D D m) = true by assumption) (absI_le (M := 1000) (by omega)) (absI_le (M := 1000) (by omega)) (absI_le (M := 1000) (by omega)) (by omega) (by omega) (by omega) hm; first | exact ⟨hd.2.1, hd.2.2⟩ | exact hd.1.1 | exact hd.1.2.1 | exact hd.1.2.2.1 | exact hd.1.2.2.2 | exact hd.2.1 | exact hd.2.2 | (simp_all; done)) | (simp_all; done)
      · intro c13
        -- 4: False
        first | rfl | omega | (have hm : mulOK (f1N C n) (f1D C n) (f2N C n) (f2D C n) = true := (by assumption); have hd := distr (mulOK_ok hm).1 (mulOK_ok hm).2 (show okR (f1N D m) (f1D D m) = true by assumption) (absI_le (M := 1000) (by omega)) (absI_le (M := 1000) (by omega)) (absI_le (M := 1000) (by omega)) (by omega) (by omega) (by omega) hm; first | exact ⟨hd.2.1, hd.2.2⟩ | exact hd.1.1 | exact hd.1.2.1 | exact hd.1.2.2.1 | exact hd.1.2.2.2 | exact hd.2.1 | exact hd.2.2 | (simp_all; done)) | (simp_all; done)
    · intro c14
      refine ⟨?_, ?_⟩
      · intro c15
        refine ⟨?_, ?_⟩
        · intro c16
          -- 5: (((mulN (f1N C n) (f1D C n) (f2N C n) (f2D C n)) = (mulN (f1N C n) (f1D C n) (f2N C n) (f2D C n))) ∧
          first | rfl | omega | (have hm : mulOK (f1N C n) (f1D C n) (f2N C n) (f2D C n) = true := (by assumption); have hd := distr (mulOK_ok hm).1 (mulOK_ok hm).2 (show okR (f1N D m) (f1D D m) = true by assumption) (absI_le (M := 1000) (by omega)) (absI_le (M := 1000) (by omega)) (absI_le (M := 1000) (by omega)) (by omega) (by omega) (by omega) hm; first | exact ⟨hd.2.1, hd.2.2⟩ | exact hd.1.1 | exact hd.1.2.1 | exact hd.1.2.2.1 | exact hd.1.2.2.2 | exact hd.2.1 | exact hd.2.2 | (simp_all; done)) | (simp_all; done)
        · intro c17
          -- 6: False
          first | rfl | omega | (have hm : mulOK (f1N C n) (f1D C n) (f2N C n) (f2D C n) = true := (by assumption); have hd := distr (mulOK_ok hm).1 (mulOK_ok hm).2 (show okR (f1N D m) (f1D D m) = true by assumption) (absI_le (M := 1000) (by omega)) (absI_le (M := 1000) (by omega)) (absI_le (M := 1000) (by omega)) (by omega) (by omega) (by omega) hm; first | exact ⟨hd.2.1, hd.2.2⟩ | exact hd.1.1 | exact hd.1.2.1 | exact hd.1.2.2.1 | exact hd.1.2.2.2 | exact hd.2.1 | exact hd.2.2 | (simp_all; done)) | (simp_all; done)
      · intro c18
        refine ⟨⟨rfl, rfl⟩, ?_, ?_⟩
        · intro c19
          refine ⟨?_, ?_⟩
          · intro c20
            -- 7: (((mulN (f1N C n) (f1D C n) (f2N C n) (f2D C n)) = (mulN (f1N C n) (f1D C n) (f2N C n) (f2D C n))) ∧
            first | rfl | omega | (have hm : mulOK (f1N C n) (f1D C n) (f2N C n) (f2D C n) = true := (by assumption); have hd := distr (mulOK_ok hm).1 (mulOK_ok hm).2 (show okR (f1N D m) (f1D D m) = true by assumption) (absI_le (M := 1000) (by omega)) (absI_le (M := 1000) (by omega)) (absI_le (M := 1000) (by omega)) (by omega) (by omega) (by omega) hm; first | exact ⟨hd.2.1, hd.2.2⟩ | exact hd.1.1 | exact hd.1.2.1 | exact hd.1.2.2.1 | exact hd.1.2.2.2 | exact hd.2.1 | exact hd.2.2 | (simp_all; done)) | (simp_all; done)
          · intro c21
            -- 8: False
            first | rfl | omega | (have hm : mulOK (f1N C n) (f1D C n) (f2N C n) (f2D C n) = true := (by assumption); have hd := distr (mulOK_ok hm).1 (mulOK_ok hm).2 (show okR (f1N D m) (f1D D m) = true by assumption) (absI_le (M := 1000) (by omega)) (absI_le (M := 1000) (by omega)) (absI_le (M := 1000) (by omega)) (by omega) (by omega) (by omega) hm; first | exact ⟨hd.2.1, hd.2.2⟩ | exact hd.1.1 | exact hd.1.2.1 | exact hd.1.2.2.1 | exact hd.1.2.2.2 | exact hd.2.1 | exact hd.2.2 | (simp_all; done)) | (simp_all; done)
        · intro c22
          refine ⟨rfl, ?_, ?_⟩
          · intro c23
            refine ⟨?_, ?_⟩
            · intro c24
              -- 9: (((mulN (f1N C n) (f1D C n) (f2N C n) (f2D C n)) = (mulN (f1N C n) (f1D C n) (f2N C n) (f2D C n))) ∧
              first | rfl | omega | (have hm : mulOK (f1N C n) (f1D C n) (f2N C n) (f2D C n) = true := (by assumption); have hd := distr (mulOK_ok hm).1 (mulOK_ok hm).2 (show okR (f1N D m) (f1D D m) = true by assumption) (absI_le (M := 1000) (by omega)) (absI_le (M := 1000) (by omega)) (absI_le (M := 1000) (by omega)) (by omega) (by omega) (by omega) hm; first | exact ⟨hd.2.1, hd.2.2⟩ | exact hd.1.1 | exact hd.1.2.1 | exact hd.1.2.2.1 | exact hd.1.2.2.2 | exact hd.2.1 | exact hd.2.2 | (simp_all; done)) | (simp_all; done)
            · intro c25
              -- 10: False
              first | rfl | omega | (have hm : mulOK (f1N C n) (f1D C n) (f2N C n) (f2D C n) = true := (by assumption); have hd := distr (mulOK_ok hm).1 (mulOK_ok hm).2 (show okR (f1N D m) (f1D D m) = true by assumption) (absI_le (M := 1000) (by omega)) (absI_le (M := 1000) (by omega)) (absI_le (M := 1000) (by omega)) (by omega) (by omega) (by omega) hm; first | exact ⟨hd.2.1, hd.2.2⟩ | exact hd.1.1 | exact hd.1.2.1 | exact hd.1.2.2.1 | exact hd.1.2.2.2 | exact hd.2.1 | exact hd.2.2 | (simp_all; done)) | (simp_all; done)
          · intro c26
            refine ⟨rfl, ?_, ?_⟩
            · intro c27
              refine ⟨?_, ?_⟩
              · intro c28
                -- 11: (((mulN (f1N C n) (f1D C n) (f2N C n) (f2D C n)) = (mulN (f1N C n) (f1D C n) (f2N C n) (f2D C n))) ∧
                first | rfl | omega | (have hm : mulOK (f1N C n) (f1D C n) (f2N C n) (f2D C n) = true := (by assumption); have hd := distr (mulOK_ok hm).1 (mulOK_ok hm).2 (show okR (f1N D m) (f1D D m) = true by assumption) (absI_le (M := 1000) (by omega)) (absI_le (M := 1000) (by omega)) (absI_le (M := 1000) (by omega)) (by omega) (by omega) (by omega) hm; first | exact ⟨hd.2.1, hd.2.2⟩ | exact hd.1.1 | exact hd.1.2.1 | exact hd.1.2.2.1 | exact hd.1.2.2.2 | exact hd.2.1 | exact hd.2.2 | (simp_all; done)) | (simp_all; done)
              · intro c29
                -- 12: False
                first | rfl | omega | (have hm : mulOK (f1N C n) (f1D C n) (f2N C n) (f2D C n) = true := (by assumption); have hd := distr (mulOK_ok hm).1 (mulOK_ok hm).2 (show okR (f1N D m) (f1D D m) = true by assumption) (absI_le (M := 1000) (by omega)) (absI_le (M := 1000) (by omega)) (absI_le (M := 1000) (by omega)) (by omega) (by omega) (by omega) hm; first | exact ⟨hd.2.1, hd.2.2⟩ | exact hd.1.1 | exact hd.1.2.1 | exact hd.1.2.2.1 | exact hd.1.2.2.2 | exact hd.2.1 | exact hd.2.2 | (simp_all; done)) | (simp_all; done)
            · intro c30
              refine ⟨rfl, ?_, ?_⟩
              · intro c31
                refine ⟨?_, ?_⟩
                · intro c32
                  -- 13: (((mulN (f1N C n) (f1D C n) (f2N C n) (f2D C n)) = (mulN (f1N C n) (f1D C n) (f2N C n) (f2D C n))) ∧
                  first | rfl | omega | (have hm : mulOK (f1N C n) (f1D C n) (f2N C n) (f2D C n) = true := (by assumption); have hd := distr (mulOK_ok hm).1 (mulOK_ok hm).2 (show okR (f1N D m) (f1D D m) = true by assumption) (absI_le (M := 1000) (by omega)) (absI_le (M := 1000) (by omega)) (absI_le (M := 1000) (by omega)) (by omega) (by omega) (by omega) hm; first | exact ⟨hd.2.1, hd.2.2⟩ | exact hd.1.1 | exact hd.1.2.1 | exact hd.1.2.2.1 | exact hd.1.2.2.2 | exact hd.2.1 | exact hd.2.2 | (simp_all; done)) | (simp_all; done)
                · intro c33
                  -- 14: False
                  first | rfl | omega | (have hm : mulOK (f1N C n) (f1D C n) (f2N C n) (f2D C n) = true := (by assumption); have hd := distr (mulOK_ok hm).1 (mulOK_ok hm).2 (show okR (f1N D m) (f1D D m) = true by assumption) (absI_le (M := 1000) (by omega)) (absI_le (M := 1000) (by omega)) (absI_le (M := 1000) (by omega)) (by omega) (by omega) (by omega) hm; first | exact ⟨hd.2.1, hd.2.2⟩ | exact hd.1.1 | exact hd.1.2.1 | exact hd.1.2.2.1 | exact hd.1.2.2.2 | exact hd.2.1 | exact hd.2.2 | (simp_all; done)) | (simp_all; done)
              · intro c34
                refine ⟨?_, ?_⟩
                · intro c35
                  refine ⟨?_, ?_⟩
                  · intro c36
                    -- 15: (((mulN (f1N C n) (f1D C n) (f2N C n) (f2D C n)) = (mulN (f1N C n) (f1D C n) (f2N C n) (f2D C n))) ∧
                    first | rfl | omega | (have hm : mulOK (f1N C n) (f1D C n) (f2N C n) (f2D C n) = true := (by assumption); have hd := distr (mulOK_ok hm).1 (mulOK_ok hm).2 (show okR (f1N D m) (f1D D m) = true by assumption) (absI_le (M := 1000) (by omega)) (absI_le (M := 1000) (by omega)) (absI_le (M := 1000) (by omega)) (by omega) (by omega) (by omega) hm; first | exact ⟨hd.2.1, hd.2.2⟩ | exact hd.1.1 | exact hd.1.2.1 | exact hd.1.2.2.1 | exact hd.1.2.2.2 | exact hd.2.1 | exact hd.2.2 | (simp_all; done)) | (simp_all; done)
                  · intro c37
                    -- 16: False
                    first | rfl | omega | (have hm : mulOK (f1N C n) (f1D C n) (f2N C n) (f2D C n) = true := (by assumption); have hd := distr (mulOK_ok hm).1 (mulOK_ok hm).2 (show okR (f1N D m) (f1D D m) = true by assumption) (absI_le (M := 1000) (by omega)) (absI_le (M := 1000) (by omega)) (absI_le (M := 1000) (by omega)) (by omega) (by omega) (by omega) hm; first | exact ⟨hd.2.1, hd.2.2⟩ | exact hd.1.1 | exact hd.1.2.1 | exact hd.1.2.2.1 | exact hd.1.2.2.2 | exact hd.2.1 | exact hd.2.2 | (simp_all; done)) | (simp_all; done)
                · intro c38
                  refine ⟨?_, ?_⟩
                  · intro c39
                    refine ⟨?_, ?_⟩
                    · intro c40
                      -- 17: (((mulN (f1N C n) (f1D C n) (f2N C n) (f2D C n)) = (mulN (f1N C n) (f1D C n) (f2N C n) (f2D C n))) ∧
                      first | rfl | omega | (have hm : mulOK (f1N C n) (f1D C n) (f2N C n) (f2D C n) = true := (by assumption); have hd := distr (mulOK_ok hm).1 (mulOK_ok hm).2 (show okR (f1N D m) (f1D D m) = true by assumption) (absI_le (M := 1000) (by omega)) (absI_le (M := 1000) (by omega)) (absI_le (M := 1000) (by omega)) (by omega) (by omega) (by omega) hm; first | exact ⟨hd.2.1, hd.2.2⟩ | exact hd.1.1 | exact hd.1.2.1 | exact hd.1.2.2.1 | exact hd.1.2.2.2 | exact hd.2.1 | exact hd.2.2 | (simp_all; done)) | (simp_all; done)
                    · intro c41
                      -- 18: False
                      first | rfl | omega | (have hm : mulOK (f1N C n) (f1D C n) (f2N C n) (f2D C n) = true := (by assumption); have hd := distr (mulOK_ok hm).1 (mulOK_ok hm).2 (show okR (f1N D m) (f1D D m) = true by assumption) (absI_le (M := 1000) (by omega)) (absI_le (M := 1000) (by omega)) (absI_le (M := 1000) (by omega)) (by omega) (by omega) (by omega) hm; first | exact ⟨hd.2.1, hd.2.2⟩ | exact hd.1.1 | exact hd.1.2.1 | exact hd.1.2.2.1 | exact hd.1.2.2.2 | exact hd.2.1 | exact hd.2.2 | (simp_all; done)) | (simp_all; done)
                  · intro c42
                    refine ⟨?_, ?_⟩
                    · intro c43
                      refine ⟨?_, ?_⟩
                      · intro c44
                        -- 19: (((mulN (f1N C n) (f1D C n) (f2N C n) (f2D C n)) = (mulN (f1N C n) (f1D C n) (f2N C n) (f2D C n))) ∧
                        first | rfl | omega | (have hm : mulOK (f1N C n) (f1D C n) (f2N C n) (f2D C n) = true := (by assumption); have hd := distr (mulOK_ok hm).1 (mulOK_ok hm).2 (show okR (f1N D m) (f1D D m) = true by assumption) (absI_le (M := 1000) (by omega)) (absI_le (M := 1000) (by omega)) (absI_le (M := 1000) (by omega)) (by omega) (by omega) (by omega) hm; first | exact ⟨hd.2.1, hd.2.2⟩ | exact hd.1.1 | exact hd.1.2.1 | exact hd.1.2.2.1 | exact hd.1.2.2.2 | exact hd.2.1 | exact hd.2.2 | (simp_all; done)) | (simp_all; done)
                      · intro c45
                        -- 20: False
                        first | rfl | omega | (have hm : mulOK (f1N C n) (f1D C n) (f2N C n) (f2D C n) = true := (by assumption); have hd := distr (mulOK_ok hm).1 (mulOK_ok hm).2 (show okR (f1N D m) (f1D D m) = true by assumption) (absI_le (M := 1000) (by omega)) (absI_le (M := 1000) (by omega)) (absI_le (M := 1000) (by omega)) (by omega) (by omega) (by omega) hm; first | exact ⟨hd.2.1, hd.2.2⟩ | exact hd.1.1 | exact hd.1.2.1 | exact hd.1.2.2.1 | exact hd.1.2.2.2 | exact hd.2.1 | exact hd.2.2 | (simp_all; done)) | (simp_all; done)
                    · intro c46
                      refine ⟨⟨⟨rfl, rfl⟩, ⟨rfl, rfl⟩⟩, ⟨⟨rfl, rfl⟩, ⟨rfl, rfl⟩⟩, ⟨⟨rfl, rfl⟩, ⟨rfl, rfl⟩⟩, ⟨⟨rfl, rfl⟩, ⟨rfl, rfl⟩⟩, ?_, ?_⟩
                      · intro c47
                        refine ⟨?_, ?_⟩
                        · intro c48
                          refine ⟨?_, ?_⟩
                          · intro c49
                            refine ⟨?_, ?_⟩
                            · intro c50
                              -- 21: (((mulN (f1N C n) (f1D C n) (addN (f2N C n) (f2D C n) (f1N D m) (f1D D m)) (addD (f2N C n) (f2D C n)
                              first | rfl | omega | (have hm : mulOK (f1N C n) (f1D C n) (f2N C n) (f2D C n) = true := (by assumption); have hd := distr (mulOK_ok hm).1 (mulOK_ok hm).2 (show okR (f1N D m) (f1D D m) = true by assumption) (absI_le (M := 1000) (by omega)) (absI_le (M := 1000) (by omega)) (absI_le (M := 1000) (by omega)) (by omega) (by omega) (by omega) hm; first | exact ⟨hd.2.1, hd.2.2⟩ | exact hd.1.1 | exact hd.1.2.1 | exact hd.1.2.2.1 | exact hd.1.2.2.2 | exact hd.2.1 | exact hd.2.2 | (simp_all; done)) | (simp_all; done)
                            · intro c51
                              -- 22: False
                              first | rfl | omega | (have hm : mulOK (f1N C n) (f1D C n) (f2N C n) (f2D C n) = true := (by assumption); have hd := distr (mulOK_ok hm).1 (mulOK_ok hm).2 (show okR (f1N D m) (f1D D m) = true by assumption) (absI_le (M := 1000) (by omega)) (absI_le (M := 1000) (by omega)) (absI_le (M := 1000) (by omega)) (by omega) (by omega) (by omega) hm; first | exact ⟨hd.2.1, hd.2.2⟩ | exact hd.1.1 | exact hd.1.2.1 | exact hd.1.2.2.1 | exact hd.1.2.2.2 | exact hd.2.1 | exact hd.2.2 | (simp_all; done)) | (simp_all; done)
                          · intro c52
                            -- 23: False
                            first | rfl | omega | (have hm : mulOK (f1N C n) (f1D C n) (f2N C n) (f2D C n) = true := (by assumption); have hd := distr (mulOK_ok hm).1 (mulOK_ok hm).2 (show okR (f1N D m) (f1D D m) = true by assumption) (absI_le (M := 1000) (by omega)) (absI_le (M := 1000) (by omega)) (absI_le (M := 1000) (by omega)) (by omega) (by omega) (by omega) hm; first | exact ⟨hd.2.1, hd.2.2⟩ | exact hd.1.1 | exact hd.1.2.1 | exact hd.1.2.2.1 | exact hd.1.2.2.2 | exact hd.2.1 | exact hd.2.2 | (simp_all; done)) | (simp_all; done)
                        · intro c53
                          -- 24: False
                          first | rfl | omega | (have hm : mulOK (f1N C n) (f1D C n) (f2N C n) (f2D C n) = true := (by assumption); have hd := distr (mulOK_ok hm).1 (mulOK_ok hm).2 (show okR (f1N D m) (f1D D m) = true by assumption) (absI_le (M := 1000) (by omega)) (absI_le (M := 1000) (by omega)) (absI_le (M := 1000) (by omega)) (by omega) (by omega) (by omega) hm; first | exact ⟨hd.2.1, hd.2.2⟩ | exact hd.1.1 | exact hd.1.2.1 | exact hd.1.2.2.1 | exact hd.1.2.2.2 | exact hd.2.1 | exact hd.2.2 | (simp_all; done)) | (simp_all; done)
                      · intro c54
                        -- 25: False
                        first | rfl | omega | (have hm : mulOK (f1N C n) (f1D C n) (f2N C n) (f2D C n) = true := (by assumption); have hd := distr (mulOK_ok hm).1 (mulOK_ok hm).2 (show okR (f1N D m) (f1D D m) = true by assumption) (absI_le (M := 1000) (by omega)) (absI_le (M := 1000) (by omega)) (absI_le (M := 1000) (by omega)) (by omega) (by omega) (by omega) hm; first | exact ⟨hd.2.1, hd.2.2⟩ | exact hd.1.1 | exact hd.1.2.1 | exact hd.1.2.2.1 | exact hd.1.2.2.2 | exact hd.2.1 | exact hd.2.2 | (simp_all; done)) | (simp_all; done)
def c_l_FnDistribute (C : Int → Int) (n : Int) (D : Int → Int) (m : Int) : Cn Try.prog := ⟨_, _, _, _, _, l_FnDistribute C n D m⟩
end Go.Proofs.Ytndkhbilefljnaa
