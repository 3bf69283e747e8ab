/- Products of fractions; fractions drawn. -/
import Derived.Test.YtndkhbilefljnaaK11
import Derived.Test.YtndkhbilefljnaaR3
set_option linter.unusedSimpArgs false
set_option linter.unusedVariables false
set_option maxRecDepth 100000
namespace Go.Proofs.Ytndkhbilefljnaa
open Go.Sym
theorem mulBad_iff {x y : Int} : mulBad x y = true ↔ x ≠ 0 ∧ Int.tdiv 100000000000 (absI x) < absI y := by
  unfold mulBad absI
  rw [Bool.and_eq_true, decide_eq_true_eq, decide_eq_true_eq, Int.tdiv_eq_ediv_of_nonneg (by decide)]
theorem mul_w {aN aD bN bD : Int} (ha : okR aN aD = true) (hb : okR bN bD = true) (hn : mulBad (redN aN bD) (redN bN aD) = false) :
    IntKind.i64.wrap (redN aN bD * redN bN aD) = redN aN bD * redN bN aD ∧ IntKind.i64.wrap (redD aN bD * redD bN aD) = redD aN bD * redD bN aD ∧ (-4000000000000000000 ≤ redN aN bD * redN bN aD ∧ redN aN bD * redN bN aD ≤ 4000000000000000000) ∧
    1 ≤ redD aN bD * redD bN aD ∧ redD aN bD * redD bN aD ≤ 400000000000000 := by
  have oa := okR_bd ha
  have ob := okR_bd hb
  have n2 := redN_bd bN aD 100000000000 oa.2.1.1 ob.1.1 ob.1.2
  have d1 := redD_bd aN bD 20000000 ob.2.1.1 ob.2.1.2
  have d2 := redD_bd bN aD 20000000 oa.2.1.1 oa.2.1.2
  have p := not_bad _ _ hn n2
  have m1 := mul_bd (redD aN bD) (redD bN aD) 20000000 20000000 (by omega) (by omega) (by omega) (by omega)
  have m2 : 1 * 1 ≤ redD aN bD * redD bN aD := Int.mul_le_mul d1.1 d2.1 (by decide) (by omega)
  exact ⟨wrap_ok (by omega) (by omega), wrap_ok (by omega) (by omega), by omega, by omega, by omega⟩
theorem i_MulRats (aN : Int) (aD : Int) (bN : Int) (bD : Int) : RunsTo Try.prog 16 [(.agg [(.int .i64 (.v fun _ => aN) (-4000000000000000000) 4000000000000000000), (.int .i64 (.v fun _ => aD) (-4000000000000000000) 4000000000000000000)]), (.agg [(.int .i64 (.v fun _ => bN) (-4000000000000000000) 4000000000000000000), (.int .i64 (.v fun _ => bD) (-4000000000000000000) 4000000000000000000)])] [] (.tup [(.agg [(.int .i64 (.v fun _ => mulN aN aD bN bD) (-100000000000) 100000000000), (.int .i64 (.v fun _ => mulD aN aD bN bD) 0 20000000)]), (.bool (.v fun _ => mulOK aN aD bN bD))]) [] := by
  refine RunsTo.go env Try.func16 rfl Try.call16 rfl rfl (fun _ _ => (.call (c_i_rvalid aN aD) (.ite .ret (.call (c_i_rvalid bN bD) (.ite .ret (.callH (c_i_reduced aN bD) (.callH (c_i_reduced bN aD) (.ite (.call (c_i_abs (redN bN aD)) (.call (c_i_abs (redN aN bD)) (.need (.ite .ret (.call (c_i_made (IntKind.i64.wrap ((redN aN bD) * (redN bN aD))) (IntKind.i64.wrap ((redD aN bD) * (redD bN aD)))) .ret))))) (.call (c_i_made (IntKind.i64.wrap ((redN aN bD) * (redN bN aD))) (IntKind.i64.wrap ((redD aN bD) * (redD bN aD)))) .ret))))))))) (G := ((((-4000000000000000000) ≤ aN ∧ aN ≤ 4000000000000000000) ∧ ((-4000000000000000000) ≤ aD ∧ aD ≤ 4000000000000000000)) ∧ (((-4000000000000000000) ≤ bN ∧ bN ≤ 4000000000000000000) ∧ ((-4000000000000000000) ≤ bD ∧ bD ≤ 4000000000000000000))) → (True) → (((aN = aN) ∧ (aD = aD)) ∧ ((((okR aN aD) = false) → ((((0 : Int) = (mulN aN aD bN bD)) ∧ ((0 : Int) = (mulD aN aD bN bD))) ∧ ((mulOK aN aD bN bD) = false))) ∧ (((okR aN aD) = true) → (((bN = bN) ∧ (bD = bD)) ∧ ((((okR bN bD) = false) → ((((0 : Int) = (mulN aN aD bN bD)) ∧ ((0 : Int) = (mulD aN aD bN bD))) ∧ ((mulOK aN aD bN bD) = false))) ∧ (((okR bN bD) = true) → ((bD ≠ 0) ∧ (((aN = aN) ∧ (bD = bD)) ∧ ((aD ≠ 0) ∧ (((bN = bN) ∧ (aD = aD)) ∧ ((((redN aN bD) ≠ 0) → (((redN bN aD) = (redN bN aD)) ∧ (((redN aN bD) = (redN aN bD)) ∧ (((absI (redN aN bD)) ≠ 0) ∧ ((((Int.tdiv 100000000000 (absI (redN aN bD))) < (absI (redN bN aD))) → ((((0 : Int) = (mulN aN aD bN bD)) ∧ ((0 : Int) = (mulD aN aD bN bD))) ∧ ((mulOK aN aD bN bD) = false))) ∧ (((absI (redN bN aD)) ≤ (Int.tdiv 100000000000 (absI (redN aN bD)))) → (((((IntKind.i64.wrap ((redN aN bD) * (redN bN aD))) = (IntKind.i64.wrap ((redN aN bD) * (redN bN aD)))) ∧ (((-9223372036854775808) ≤ (IntKind.i64.wrap ((redN aN bD) * (redN bN aD))) ∧ (IntKind.i64.wrap ((redN aN bD) * (redN bN aD))) ≤ 9223372036854775807) → ((-4000000000000000000) ≤ (IntKind.i64.wrap ((redN aN bD) * (redN bN aD))) ∧ (IntKind.i64.wrap ((redN aN bD) * (redN bN aD))) ≤ 4000000000000000000))) ∧ (((IntKind.i64.wrap ((redD aN bD) * (redD bN aD))) = (IntKind.i64.wrap ((redD aN bD) * (redD bN aD)))) ∧ (((-9223372036854775808) ≤ (IntKind.i64.wrap ((redD aN bD) * (redD bN aD))) ∧ (IntKind.i64.wrap ((redD aN bD) * (redD bN aD))) ≤ 9223372036854775807) → ((-4000000000000000000) ≤ (IntKind.i64.wrap ((redD aN bD) * (redD bN aD))) ∧ (IntKind.i64.wrap ((redD aN bD) * (redD bN aD))) ≤ 4000000000000000000)))) ∧ ((((orZ (okR (IntKind.i64.wrap ((redN aN bD) * (redN bN aD))) (IntKind.i64.wrap ((redD aN bD) * (redD bN aD)))) (IntKind.i64.wrap ((redN aN bD) * (redN bN aD)))) = (mulN aN aD bN bD)) ∧ ((orZ (okR (IntKind.i64.wrap ((redN aN bD) * (redN bN aD))) (IntKind.i64.wrap ((redD aN bD) * (redD bN aD)))) (IntKind.i64.wrap ((redD aN bD) * (redD bN aD)))) = (mulD aN aD bN bD))) ∧ (((okR (IntKind.i64.wrap ((redN aN bD) * (redN bN aD))) (IntKind.i64.wrap ((redD aN bD) * (redD bN aD)))) = true) ↔ ((mulOK aN aD bN bD) = true)))))))))) ∧ (((redN aN bD) = 0) → (((((IntKind.i64.wrap ((redN aN bD) * (redN bN aD))) = (IntKind.i64.wrap ((redN aN bD) * (redN bN aD)))) ∧ (((-9223372036854775808) ≤ (IntKind.i64.wrap ((redN aN bD) * (redN bN aD))) ∧ (IntKind.i64.wrap ((redN aN bD) * (redN bN aD))) ≤ 9223372036854775807) → ((-4000000000000000000) ≤ (IntKind.i64.wrap ((redN aN bD) * (redN bN aD))) ∧ (IntKind.i64.wrap ((redN aN bD) * (redN bN aD))) ≤ 4000000000000000000))) ∧ (((IntKind.i64.wrap ((redD aN bD) * (redD bN aD))) = (IntKind.i64.wrap ((redD aN bD) * (redD bN aD)))) ∧ (((-9223372036854775808) ≤ (IntKind.i64.wrap ((redD aN bD) * (redD bN aD))) ∧ (IntKind.i64.wrap ((redD aN bD) * (redD bN aD))) ≤ 9223372036854775807) → ((-4000000000000000000) ≤ (IntKind.i64.wrap ((redD aN bD) * (redD bN aD))) ∧ (IntKind.i64.wrap ((redD aN bD) * (redD bN aD))) ≤ 4000000000000000000)))) ∧ ((((orZ (okR (IntKind.i64.wrap ((redN aN bD) * (redN bN aD))) (IntKind.i64.wrap ((redD aN bD) * (redD bN aD)))) (IntKind.i64.wrap ((redN aN bD) * (redN bN aD)))) = (mulN aN aD bN bD)) ∧ ((orZ (okR (IntKind.i64.wrap ((redN aN bD) * (redN bN aD))) (IntKind.i64.wrap ((redD aN bD) * (redD bN aD)))) (IntKind.i64.wrap ((redD aN bD) * (redD bN aD)))) = (mulD aN aD bN bD))) ∧ (((okR (IntKind.i64.wrap ((redN aN bD) * (redN bN aD))) (IntKind.i64.wrap ((redD aN bD) * (redD bN aD)))) = true) ↔ ((mulOK aN aD bN bD) = true))))))))))))))))) (by kernel_rfl) ?_
  intro h1 h2
  refine ⟨⟨rfl, rfl⟩, ?_, ?_⟩
  · intro c1
    refine ⟨?_, ?_⟩
    · refine ⟨?_, ?_⟩
        -- 1: (0 : Int) = (mulN aN aD bN bD)
      · first | rfl | omega | (unfold absI; omega) | (simp [mulN, mulD, mulOK, orZ, *]; done) | (have ho := okR_bd (show okR aN aD = true by assumption); have hq := okR_bd (show okR bN bD = true by assumption); omega) | (have hm : mulBad (redN aN bD) (redN bN aD) = true := mulBad_iff.2 ⟨by assumption, by omega⟩; simp [mulN, mulD, mulOK, orZ, *]; done) | (have hm : mulBad (redN aN bD) (redN bN aD) = false := (by rw [← Bool.not_eq_true, mulBad_iff]; omega); obtain ⟨w1, w2, w3, w4, w5⟩ := mul_w (show okR aN aD = true by assumption) (show okR bN bD = true by assumption) hm; simp only [w1, w2] at *; first | omega | (simp [mulN, mulD, mulOK, orZ, *]; done) | (simp_all [mulN, mulD, mulOK, orZ]; done))
        -- 2: (0 : Int) = (mulD aN aD bN bD)
      · first | rfl | omega | (unfold absI; omega) | (simp [mulN, mulD, mulOK, orZ, *]; done) | (have ho := okR_bd (show okR aN aD = true by assumption); have hq := okR_bd (show okR bN bD = true by assumption); omega) | (have hm : mulBad (redN aN bD) (redN bN aD) = true := mulBad_iff.2 ⟨by assumption, by omega⟩; simp [mulN, mulD, mulOK, orZ, *]; done) | (have hm : mulBad (redN aN bD) (redN bN aD) = false := (by rw [← Bool.not_eq_true, mulBad_iff]; omega); obtain ⟨w1, w2, w3, w4, w5⟩ := mul_w (show okR aN aD = true by assumption) (show okR bN bD = true by assumption) hm; simp only [w1, w2] at *; first | omega | (simp [mulN, mulD, mulOK, orZ, *]; done) | (simp_all [mulN, mulD, mulOK, orZ]; done))
      -- 3: (mulOK aN aD bN bD) = false
    · first | rfl | omega | (unfold absI; omega) | (simp [mulN, mulD, mulOK, orZ, *]; done) | (have ho := okR_bd (show okR aN aD = true by assumption); have hq := okR_bd (show okR bN bD = true by assumption); omega) | (have hm : mulBad (redN aN bD) (redN bN aD) = true := mulBad_iff.2 ⟨by assumption, by omega⟩; simp [mulN, mulD, mulOK, orZ, *]; done) | (have hm : mulBad (redN aN bD) (redN bN aD) = false := (by rw [← Bool.not_eq_true, mulBad_iff]; omega); obtain ⟨w1, w2, w3, w4, w5⟩ := mul_w (show okR aN aD = true by assumption) (show okR bN bD = true by assumption) hm; simp only [w1, w2] at *; first | omega | (simp [mulN, mulD, mulOK, orZ, *]; done) | (simp_all [mulN, mulD, mulOK, orZ]; done))
  · intro c2
    refine ⟨⟨rfl, rfl⟩, ?_, ?_⟩
    · intro c3
      refine ⟨?_, ?_⟩
      · refine ⟨?_, ?_⟩
          -- 4: (0 : Int) = (mulN aN aD bN bD)
        · first | rfl | omega | (unfold absI; omega) | (simp [mulN, mulD, mulOK, orZ, *]; done) | (have ho := okR_bd (show okR aN aD = true by assumption); have hq := okR_bd (show okR bN bD = true by assumption); omega) | (have hm : mulBad (redN aN bD) (redN bN aD) = true := mulBad_iff.2 ⟨by assumption, by omega⟩; simp [mulN, mulD, mulOK, orZ, *]; done) | (have hm : mulBad (redN aN bD) (redN bN aD) = false := (by rw [← Bool.not_eq_true, mulBad_iff]; omega); obtain ⟨w1, w2, w3, w4, w5⟩ := mul_w (show okR aN aD = true by assumption) (show okR bN bD = true by assumption) hm; simp only [w1, w2] at *; first | omega | (simp [mulN, mulD, mulOK, orZ, *]; done) | (simp_all [mulN, mulD, mulOK, orZ]; done))
          -- 5: (0 : Int) = (mulD aN aD bN bD)
        · first | rfl | omega | (unfold absI; omega) | (simp [mulN, mulD, mulOK, orZ, *]; done) | (have ho := okR_bd (show okR aN aD = true by assumption); have hq := okR_bd (show okR bN bD = true by assumption); omega) | (have hm : mulBad (redN aN bD) (redN bN aD) = true := mulBad_iff.2 ⟨by assumption, by omega⟩; simp [mulN, mulD, mulOK, orZ, *]; done) | (have hm : mulBad (redN aN bD) (redN bN aD) = false := (by rw [← Bool.not_eq_true, mulBad_iff]; omega); obtain ⟨w1, w2, w3, w4, w5⟩ := mul_w (show okR aN aD = true by assumption) (show okR bN bD = true by assumption) hm; simp only [w1, w2] at *; first | omega | (simp [mulN, mulD, mulOK, orZ, *]; done) | (simp_all [mulN, mulD, mulOK, orZ]; done))
        -- 6: (mulOK aN aD bN bD) = false
      · first | rfl | omega | (unfold absI; omega) | (simp [mulN, mulD, mulOK, orZ, *]; done) | (have ho := okR_bd (show okR aN aD = true by assumption); have hq := okR_bd (show okR bN bD = true by assumption); omega) | (have hm : mulBad (redN aN bD) (redN bN aD) = true := mulBad_iff.2 ⟨by assumption, by omega⟩; simp [mulN, mulD, mulOK, orZ, *]; done) | (have hm : mulBad (redN aN bD) (redN bN aD) = false := (by rw [← Bool.not_eq_true, mulBad_iff]; omega); obtain ⟨w1, w2, w3, w4, w5⟩ := mul_w (show okR aN aD = true by assumption) (show okR bN bD = true by assumption) hm; simp only [w1, w2] at *; first | omega | (simp [mulN, mulD, mulOK, orZ, *]; done) | (simp_all [mulN, mulD, mulOK, orZ]; done))
    · intro c4
      refine ⟨?_, ⟨rfl, rfl⟩, ?_, ⟨rfl, rfl⟩, ?_, ?_⟩
        -- 7: bD ≠ 0
      · first | rfl | omega | (unfold absI; omega) | (simp [mulN, mulD, mulOK, orZ, *]; done) | (have ho := okR_bd (show okR aN aD = true by assumption); have hq := okR_bd (show okR bN bD = true by assumption); omega) | (have hm : mulBad (redN aN bD) (redN bN aD) = true := mulBad_iff.2 ⟨by assumption, by omega⟩; simp [mulN, mulD, mulOK, orZ, *]; done) | (have hm : mulBad (redN aN bD) (redN bN aD) = false := (by rw [← Bool.not_eq_true, mulBad_iff]; omega); obtain ⟨w1, w2, w3, w4, w5⟩ := mul_w (show okR aN aD = true by assumption) (show okR bN bD = true by assumption) hm; simp only [w1, w2] at *; first | omega | (simp [mulN, mulD, mulOK, orZ, *]; done) | (simp_all [mulN, mulD, mulOK, orZ]; done))
        -- 8: aD ≠ 0
      · first | rfl | omega | (unfold absI; omega) | (simp [mulN, mulD, mulOK, orZ, *]; done) | (have ho := okR_bd (show okR aN aD = true by assumption); have hq := okR_bd (show okR bN bD = true by assumption); omega) | (have hm : mulBad (redN aN bD) (redN bN aD) = true := mulBad_iff.2 ⟨by assumption, by omega⟩; simp [mulN, mulD, mulOK, orZ, *]; done) | (have hm : mulBad (redN aN bD) (redN bN aD) = false := (by rw [← Bool.not_eq_true, mulBad_iff]; omega); obtain ⟨w1, w2, w3, w4, w5⟩ := mul_w (show okR aN aD = true by assumption) (show okR bN bD = true by assumption) hm; simp only [w1, w2] at *; first | omega | (simp [mulN, mulD, mulOK, orZ, *]; done) | (simp_all [mulN, mulD, mulOK, orZ]; done))
      · intro c5
        refine ⟨rfl, rfl, ?_, ?_, ?_⟩
          -- 9: (absI (redN aN bD)) ≠ 0
        · first | rfl | omega | (unfold absI; omega) | (simp [mulN, mulD, mulOK, orZ, *]; done) | (have ho := okR_bd (show okR aN aD = true by assumption); have hq := okR_bd (show okR bN bD = true by assumption); omega) | (have hm : mulBad (redN aN bD) (redN bN aD) = true := mulBad_iff.2 ⟨by assumption, by omega⟩; simp [mulN, mulD, mulOK, orZ, *]; done) | (have hm : mulBad (redN aN bD) (redN bN aD) = false := (by rw [← Bool.not_eq_true, mulBad_iff]; omega); obtain ⟨w1, w2, w3, w4, w5⟩ := mul_w (show okR aN aD = true by assumption) (show okR bN bD = true by assumption) hm; simp only [w1, w2] at *; first | omega | (simp [mulN, mulD, mulOK, orZ, *]; done) | (simp_all [mulN, mulD, mulOK, orZ]; done))
        · intro c6
          refine ⟨?_, ?_⟩
          · refine ⟨?_, ?_⟩
              -- 10: (0 : Int) = (mulN aN aD bN bD)
            · first | rfl | omega | (unfold absI; omega) | (simp [mulN, mulD, mulOK, orZ, *]; done) | (have ho := okR_bd (show okR aN aD = true by assumption); have hq := okR_bd (show okR bN bD = true by assumption); omega) | (have hm : mulBad (redN aN bD) (redN bN aD) = true := mulBad_iff.2 ⟨by assumption, by omega⟩; simp [mulN, mulD, mulOK, orZ, *]; done) | (have hm : mulBad (redN aN bD) (redN bN aD) = false := (by rw [← Bool.not_eq_true, mulBad_iff]; omega); obtain ⟨w1, w2, w3, w4, w5⟩ := mul_w (show okR aN aD = true by assumption) (show okR bN bD = true by assumption) hm; simp only [w1, w2] at *; first | omega | (simp [mulN, mulD, mulOK, orZ, *]; done) | (simp_all [mulN, mulD, mulOK, orZ]; done))
              -- 11: (0 : Int) = (mulD aN aD bN bD)
            · first | rfl | omega | (unfold absI; omega) | (simp [mulN, mulD, mulOK, orZ, *]; done) | (have ho := okR_bd (show okR aN aD = true by assumption); have hq := okR_bd (show okR bN bD = true by assumption); omega) | (have hm : mulBad (redN aN bD) (redN bN aD) = true := mulBad_iff.2 ⟨by assumption, by omega⟩; simp [mulN, mulD, mulOK, orZ, *]; done) | (have hm : mulBad (redN aN bD) (redN bN aD) = false := (by rw [← Bool.not_eq_true, mulBad_iff]; omega); obtain ⟨w1, w2, w3, w4, w5⟩ := mul_w (show okR aN aD = true by assumption) (show okR bN bD = true by assumption) hm; simp only [w1, w2] at *; first | omega | (simp [mulN, mulD, mulOK, orZ, *]; done) | (simp_all [mulN, mulD, mulOK, orZ]; done))
            -- 12: (mulOK aN aD bN bD) = false
          · first | rfl | omega | (unfold absI; omega) | (simp [mulN, mulD, mulOK, orZ, *]; done) | (have ho := okR_bd (show okR aN aD = true by assumption); have hq := okR_bd (show okR bN bD = true by assumption); omega) | (have hm : mulBad (redN aN bD) (redN bN aD) = true := mulBad_iff.2 ⟨by assumption, by omega⟩; simp [mulN, mulD, mulOK, orZ, *]; done) | (have hm : mulBad (redN aN bD) (redN bN aD) = false := (by rw [← Bool.not_eq_true, mulBad_iff]; omega); obtain ⟨w1, w2, w3, w4, w5⟩ := mul_w (show okR aN aD = true by assumption) (show okR bN bD = true by assumption) hm; simp only [w1, w2] at *; first | omega | (simp [mulN, mulD, mulOK, orZ, *]; done) | (simp_all [mulN, mulD, mulOK, orZ]; done))
        · intro c7
          refine ⟨?_, ?_, ?_⟩
          · refine ⟨?_, rfl, ?_⟩
            · refine ⟨rfl, ?_⟩
              intro c8
              -- 13: (-4000000000000000000) ≤ (IntKind.i64.wrap ((redN aN bD) * (redN bN aD))) ∧ (IntKind.i64.wrap ((redN
              first | rfl | omega | (unfold absI; omega) | (simp [mulN, mulD, mulOK, orZ, *]; done) | (have ho := okR_bd (show okR aN aD = true by assumption); have hq := okR_bd (show okR bN bD = true by assumption); omega) | (have hm : mulBad (redN aN bD) (redN bN aD) = true := mulBad_iff.2 ⟨by assumption, by omega⟩; simp [mulN, mulD, mulOK, orZ, *]; done) | (have hm : mulBad (redN aN bD) (redN bN aD) = false := (by rw [← Bool.not_eq_true, mulBad_iff]; omega); obtain ⟨w1, w2, w3, w4, w5⟩ := mul_w (show okR aN aD = true by assumption) (show okR bN bD = true by assumption) hm; simp only [w1, w2] at *; first | omega | (simp [mulN, mulD, mulOK, orZ, *]; done) | (simp_all [mulN, mulD, mulOK, orZ]; done))
            · intro c9
              -- 14: (-4000000000000000000) ≤ (IntKind.i64.wrap ((redD aN bD) * (redD bN aD))) ∧ (IntKind.i64.wrap ((redD
              first | rfl | omega | (unfold absI; omega) | (simp [mulN, mulD, mulOK, orZ, *]; done) | (have ho := okR_bd (show okR aN aD = true by assumption); have hq := okR_bd (show okR bN bD = true by assumption); omega) | (have hm : mulBad (redN aN bD) (redN bN aD) = true := mulBad_iff.2 ⟨by assumption, by omega⟩; simp [mulN, mulD, mulOK, orZ, *]; done) | (have hm : mulBad (redN aN bD) (redN bN aD) = false := (by rw [← Bool.not_eq_true, mulBad_iff]; omega); obtain ⟨w1, w2, w3, w4, w5⟩ := mul_w (show okR aN aD = true by assumption) (show okR bN bD = true by assumption) hm; simp only [w1, w2] at *; first | omega | (simp [mulN, mulD, mulOK, orZ, *]; done) | (simp_all [mulN, mulD, mulOK, orZ]; done))
          · refine ⟨?_, ?_⟩
              -- 15: (orZ (okR (IntKind.i64.wrap ((redN aN bD) * (redN bN aD))) (IntKind.i64.wrap ((redD aN bD) * (redD b
            · first | rfl | omega | (unfold absI; omega) | (simp [mulN, mulD, mulOK, orZ, *]; done) | (have ho := okR_bd (show okR aN aD = true by assumption); have hq := okR_bd (show okR bN bD = true by assumption); omega) | (have hm : mulBad (redN aN bD) (redN bN aD) = true := mulBad_iff.2 ⟨by assumption, by omega⟩; simp [mulN, mulD, mulOK, orZ, *]; done) | (have hm : mulBad (redN aN bD) (redN bN aD) = false := (by rw [← Bool.not_eq_true, mulBad_iff]; omega); obtain ⟨w1, w2, w3, w4, w5⟩ := mul_w (show okR aN aD = true by assumption) (show okR bN bD = true by assumption) hm; simp only [w1, w2] at *; first | omega | (simp [mulN, mulD, mulOK, orZ, *]; done) | (simp_all [mulN, mulD, mulOK, orZ]; done))
              -- 16: (orZ (okR (IntKind.i64.wrap ((redN aN bD) * (redN bN aD))) (IntKind.i64.wrap ((redD aN bD) * (redD b
            · first | rfl | omega | (unfold absI; omega) | (simp [mulN, mulD, mulOK, orZ, *]; done) | (have ho := okR_bd (show okR aN aD = true by assumption); have hq := okR_bd (show okR bN bD = true by assumption); omega) | (have hm : mulBad (redN aN bD) (redN bN aD) = true := mulBad_iff.2 ⟨by assumption, by omega⟩; simp [mulN, mulD, mulOK, orZ, *]; done) | (have hm : mulBad (redN aN bD) (redN bN aD) = false := (by rw [← Bool.not_eq_true, mulBad_iff]; omega); obtain ⟨w1, w2, w3, w4, w5⟩ := mul_w (show okR aN aD = true by assumption) (show okR bN bD = true by assumption) hm; simp only [w1, w2] at *; first | omega | (simp [mulN, mulD, mulOK, orZ, *]; done) | (simp_all [mulN, mulD, mulOK, orZ]; done))
            -- 17: ((okR (IntKind.i64.wrap ((redN aN bD) * (redN bN aD))) (IntKind.i64.wrap ((redD aN bD) * (redD bN aD
          · first | rfl | omega | (unfold absI; omega) | (simp [mulN, mulD, mulOK, orZ, *]; done) | (have ho := okR_bd (show okR aN aD = true by assumption); have hq := okR_bd (show okR bN bD = true by assumption); omega) | (have hm : mulBad (redN aN bD) (redN bN aD) = true := mulBad_iff.2 ⟨by assumption, by omega⟩; simp [mulN, mulD, mulOK, orZ, *]; done) | (have hm : mulBad (redN aN bD) (redN bN aD) = false := (by rw [← Bool.not_eq_true, mulBad_iff]; omega); obtain ⟨w1, w2, w3, w4, w5⟩ := mul_w (show okR aN aD = true by assumption) (show okR bN bD = true by assumption) hm; simp only [w1, w2] at *; first | omega | (simp [mulN, mulD, mulOK, orZ, *]; done) | (simp_all [mulN, mulD, mulOK, orZ]; done))
      · intro c10
        refine ⟨?_, ?_, ?_⟩
        · refine ⟨?_, rfl, ?_⟩
          · refine ⟨rfl, ?_⟩
            intro c11
            -- 18: (-4000000000000000000) ≤ (IntKind.i64.wrap ((redN aN bD) * (redN bN aD))) ∧ (IntKind.i64.wrap ((redN
            first | rfl | omega | (unfold absI; omega) | (simp [mulN, mulD, mulOK, orZ, *]; done) | (have ho := okR_bd (show okR aN aD = true by assumption); have hq := okR_bd (show okR bN bD = true by assumption); omega) | (have hm : mulBad (redN aN bD) (redN bN aD) = true := mulBad_iff.2 ⟨by assumption, by omega⟩; simp [mulN, mulD, mulOK, orZ, *]; done) | (have hm : mulBad (redN aN bD) (redN bN aD) = false := (by rw [← Bool.not_eq_true, mulBad_iff]; omega); obtain ⟨w1, w2, w3, w4, w5⟩ := mul_w (show okR aN aD = true by assumption) (show okR bN bD = true by assumption) hm; simp only [w1, w2] at *; first | omega | (simp [mulN, mulD, mulOK, orZ, *]; done) | (simp_all [mulN, mulD, mulOK, orZ]; done))
          · intro c12
            -- 19: (-4000000000000000000) ≤ (IntKind.i64.wrap ((redD aN bD) * (redD bN aD))) ∧ (IntKind.i64.wrap ((redD
            first | rfl | omega | (unfold absI; omega) | (simp [mulN, mulD, mulOK, orZ, *]; done) | (have ho := okR_bd (show okR aN aD = true by assumption); have hq := okR_bd (show okR bN bD = true by assumption); omega) | (have hm : mulBad (redN aN bD) (redN bN aD) = true := mulBad_iff.2 ⟨by assumption, by omega⟩; simp [mulN, mulD, mulOK, orZ, *]; done) | (have hm : mulBad (redN aN bD) (redN bN aD) = false := (by rw [← Bool.not_eq_true, mulBad_iff]; omega); obtain ⟨w1, w2, w3, w4, w5⟩ := mul_w (show okR aN aD = true by assumption) (show okR bN bD = true by assumption) hm; simp only [w1, w2] at *; first | omega | (simp [mulN, mulD, mulOK, orZ, *]; done) | (simp_all [mulN, mulD, mulOK, orZ]; done))
        · refine ⟨?_, ?_⟩
            -- 20: (orZ (okR (IntKind.i64.wrap ((redN aN bD) * (redN bN aD))) (IntKind.i64.wrap ((redD aN bD) * (redD b
          · first | rfl | omega | (unfold absI; omega) | (simp [mulN, mulD, mulOK, orZ, *]; done) | (have ho := okR_bd (show okR aN aD = true by assumption); have hq := okR_bd (show okR bN bD = true by assumption); omega) | (have hm : mulBad (redN aN bD) (redN bN aD) = true := mulBad_iff.2 ⟨by assumption, by omega⟩; simp [mulN, mulD, mulOK, orZ, *]; done) | (have hm : mulBad (redN aN bD) (redN bN aD) = false := (by rw [← Bool.not_eq_true, mulBad_iff]; omega); obtain ⟨w1, w2, w3, w4, w5⟩ := mul_w (show okR aN aD = true by assumption) (show okR bN bD = true by assumption) hm; simp only [w1, w2] at *; first | omega | (simp [mulN, mulD, mulOK, orZ, *]; done) | (simp_all [mulN, mulD, mulOK, orZ]; done))
            -- 21: (orZ (okR (IntKind.i64.wrap ((redN aN bD) * (redN bN aD))) (IntKind.i64.wrap ((redD aN bD) * (redD b
          · first | rfl | omega | (unfold absI; omega) | (simp [mulN, mulD, mulOK, orZ, *]; done) | (have ho := okR_bd (show okR aN aD = true by assumption); have hq := okR_bd (show okR bN bD = true by assumption); omega) | (have hm : mulBad (redN aN bD) (redN bN aD) = true := mulBad_iff.2 ⟨by assumption, by omega⟩; simp [mulN, mulD, mulOK, orZ, *]; done) | (have hm : mulBad (redN aN bD) (redN bN aD) = false := (by rw [← Bool.not_eq_true, mulBad_iff]; omega); obtain ⟨w1, w2, w3, w4, w5⟩ := mul_w (show okR aN aD = true by assumption) (show okR bN bD = true by assumption) hm; simp only [w1, w2] at *; first | omega | (simp [mulN, mulD, mulOK, orZ, *]; done) | (simp_all [mulN, mulD, mulOK, orZ]; done))
          -- 22: ((okR (IntKind.i64.wrap ((redN aN bD) * (redN bN aD))) (IntKind.i64.wrap ((redD aN bD) * (redD bN aD
        · first | rfl | omega | (unfold absI; omega) | (simp [mulN, mulD, mulOK, orZ, *]; done) | (have ho := okR_bd (show okR aN aD = true by assumption); have hq := okR_bd (show okR bN bD = true by assumption); omega) | (have hm : mulBad (redN aN bD) (redN bN aD) = true := mulBad_iff.2 ⟨by assumption, by omega⟩; simp [mulN, mulD, mulOK, orZ, *]; done) | (have hm : mulBad (redN aN bD) (redN bN aD) = false := (by rw [← Bool.not_eq_true, mulBad_iff]; omega); obtain ⟨w1, w2, w3, w4, w5⟩ := mul_w (show okR aN aD = true by assumption) (show okR bN bD = true by assumption) hm; simp only [w1, w2] at *; first | omega | (simp [mulN, mulD, mulOK, orZ, *]; done) | (simp_all [mulN, mulD, mulOK, orZ]; done))
def c_i_MulRats (aN : Int) (aD : Int) (bN : Int) (bD : Int) : Cn Try.prog := ⟨_, _, _, _, _, i_MulRats aN aD bN bD⟩
theorem s_MulRats (aN : Int) (aD : Int) (bN : Int) (bD : Int) : RunsTo Try.prog 17 [(.agg [(.int .i64 (.v fun _ => aN) (-4000000000000000000) 4000000000000000000), (.int .i64 (.v fun _ => aD) (-4000000000000000000) 4000000000000000000)]), (.agg [(.int .i64 (.v fun _ => bN) (-4000000000000000000) 4000000000000000000), (.int .i64 (.v fun _ => bD) (-4000000000000000000) 4000000000000000000)])] [] (.tup [(.agg [(.int .i64 (.v fun _ => mulN aN aD bN bD) (-100000000000) 100000000000), (.int .i64 (.v fun _ => mulD aN aD bN bD) 0 20000000)]), (.bool (.v fun _ => mulOK aN aD bN bD))]) [] := by
  refine RunsTo.go env Try.func17 rfl Try.call17 rfl rfl (fun _ _ => (.call (c_s_validRat aN aD) (.ite .ret (.call (c_s_validRat bN bD) (.ite .ret (.callH (c_s_ratio aN bD) (.callH (c_s_ratio bN aD) (.ite (.call (c_s_abs (redN bN aD)) (.call (c_s_abs (redN aN bD)) (.need (.ite .ret (.call (c_s_checked (IntKind.i64.wrap ((redN aN bD) * (redN bN aD))) (IntKind.i64.wrap ((redD aN bD) * (redD bN aD)))) .ret))))) (.call (c_s_checked (IntKind.i64.wrap ((redN aN bD) * (redN bN aD))) (IntKind.i64.wrap ((redD aN bD) * (redD bN aD)))) .ret))))))))) (G := ((((-4000000000000000000) ≤ aN ∧ aN ≤ 4000000000000000000) ∧ ((-4000000000000000000) ≤ aD ∧ aD ≤ 4000000000000000000)) ∧ (((-4000000000000000000) ≤ bN ∧ bN ≤ 4000000000000000000) ∧ ((-4000000000000000000) ≤ bD ∧ bD ≤ 4000000000000000000))) → (True) → (((aN = aN) ∧ (aD = aD)) ∧ ((((okR aN aD) = false) → ((((0 : Int) = (mulN aN aD bN bD)) ∧ ((0 : Int) = (mulD aN aD bN bD))) ∧ ((mulOK aN aD bN bD) = false))) ∧ (((okR aN aD) = true) → (((bN = bN) ∧ (bD = bD)) ∧ ((((okR bN bD) = false) → ((((0 : Int) = (mulN aN aD bN bD)) ∧ ((0 : Int) = (mulD aN aD bN bD))) ∧ ((mulOK aN aD bN bD) = false))) ∧ (((okR bN bD) = true) → ((bD ≠ 0) ∧ (((aN = aN) ∧ (bD = bD)) ∧ ((aD ≠ 0) ∧ (((bN = bN) ∧ (aD = aD)) ∧ ((((redN aN bD) ≠ 0) → (((redN bN aD) = (redN bN aD)) ∧ (((redN aN bD) = (redN aN bD)) ∧ (((absI (redN aN bD)) ≠ 0) ∧ ((((Int.tdiv 100000000000 (absI (redN aN bD))) < (absI (redN bN aD))) → ((((0 : Int) = (mulN aN aD bN bD)) ∧ ((0 : Int) = (mulD aN aD bN bD))) ∧ ((mulOK aN aD bN bD) = false))) ∧ (((absI (redN bN aD)) ≤ (Int.tdiv 100000000000 (absI (redN aN bD)))) → (((((IntKind.i64.wrap ((redN aN bD) * (redN bN aD))) = (IntKind.i64.wrap ((redN aN bD) * (redN bN aD)))) ∧ (((-9223372036854775808) ≤ (IntKind.i64.wrap ((redN aN bD) * (redN bN aD))) ∧ (IntKind.i64.wrap ((redN aN bD) * (redN bN aD))) ≤ 9223372036854775807) → ((-4000000000000000000) ≤ (IntKind.i64.wrap ((redN aN bD) * (redN bN aD))) ∧ (IntKind.i64.wrap ((redN aN bD) * (redN bN aD))) ≤ 4000000000000000000))) ∧ (((IntKind.i64.wrap ((redD aN bD) * (redD bN aD))) = (IntKind.i64.wrap ((redD aN bD) * (redD bN aD)))) ∧ (((-9223372036854775808) ≤ (IntKind.i64.wrap ((redD aN bD) * (redD bN aD))) ∧ (IntKind.i64.wrap ((redD aN bD) * (redD bN aD))) ≤ 9223372036854775807) → ((-4000000000000000000) ≤ (IntKind.i64.wrap ((redD aN bD) * (redD bN aD))) ∧ (IntKind.i64.wrap ((redD aN bD) * (redD bN aD))) ≤ 4000000000000000000)))) ∧ ((((orZ (okR (IntKind.i64.wrap ((redN aN bD) * (redN bN aD))) (IntKind.i64.wrap ((redD aN bD) * (redD bN aD)))) (IntKind.i64.wrap ((redN aN bD) * (redN bN aD)))) = (mulN aN aD bN bD)) ∧ ((orZ (okR (IntKind.i64.wrap ((redN aN bD) * (redN bN aD))) (IntKind.i64.wrap ((redD aN bD) * (redD bN aD)))) (IntKind.i64.wrap ((redD aN bD) * (redD bN aD)))) = (mulD aN aD bN bD))) ∧ (((okR (IntKind.i64.wrap ((redN aN bD) * (redN bN aD))) (IntKind.i64.wrap ((redD aN bD) * (redD bN aD)))) = true) ↔ ((mulOK aN aD bN bD) = true)))))))))) ∧ (((redN aN bD) = 0) → (((((IntKind.i64.wrap ((redN aN bD) * (redN bN aD))) = (IntKind.i64.wrap ((redN aN bD) * (redN bN aD)))) ∧ (((-9223372036854775808) ≤ (IntKind.i64.wrap ((redN aN bD) * (redN bN aD))) ∧ (IntKind.i64.wrap ((redN aN bD) * (redN bN aD))) ≤ 9223372036854775807) → ((-4000000000000000000) ≤ (IntKind.i64.wrap ((redN aN bD) * (redN bN aD))) ∧ (IntKind.i64.wrap ((redN aN bD) * (redN bN aD))) ≤ 4000000000000000000))) ∧ (((IntKind.i64.wrap ((redD aN bD) * (redD bN aD))) = (IntKind.i64.wrap ((redD aN bD) * (redD bN aD)))) ∧ (((-9223372036854775808) ≤ (IntKind.i64.wrap ((redD aN bD) * (redD bN aD))) ∧ (IntKind.i64.wrap ((redD aN bD) * (redD bN aD))) ≤ 9223372036854775807) → ((-4000000000000000000) ≤ (IntKind.i64.wrap ((redD aN bD) * (redD bN aD))) ∧ (IntKind.i64.wrap ((redD aN bD) * (redD bN aD))) ≤ 4000000000000000000)))) ∧ ((((orZ (okR (IntKind.i64.wrap ((redN aN bD) * (redN bN aD))) (IntKind.i64.wrap ((redD aN bD) * (redD bN aD)))) (IntKind.i64.wrap ((redN aN bD) * (redN bN aD)))) = (mulN aN aD bN bD)) ∧ ((orZ (okR (IntKind.i64.wrap ((redN aN bD) * (redN bN aD))) (IntKind.i64.wrap ((redD aN bD) * (redD bN aD)))) (IntKind.i64.wrap ((redD aN bD) * (redD bN aD)))) = (mulD aN aD bN bD))) ∧ (((okR (IntKind.i64.wrap ((redN aN bD) * (redN bN aD))) (IntKind.i64.wrap ((redD aN bD) * (redD bN aD)))) = true) ↔ ((mulOK aN aD bN bD) = true))))))))))))))))) (by kernel_rfl) ?_
  intro h1 h2
  refine ⟨⟨rfl, rfl⟩, ?_, ?_⟩
  · intro c1
    refine ⟨?_, ?_⟩
    · refine ⟨?_, ?_⟩
        -- 1: (0 : Int) = (mulN aN aD bN bD)
      · first | rfl | omega | (unfold absI; omega) | (simp [mulN, mulD, mulOK, orZ, *]; done) | (have ho := okR_bd (show okR aN aD = true by assumption); have hq := okR_bd (show okR bN bD = true by assumption); omega) | (have hm : mulBad (redN aN bD) (redN bN aD) = true := mulBad_iff.2 ⟨by assumption, by omega⟩; simp [mulN, mulD, mulOK, orZ, *]; done) | (have hm : mulBad (redN aN bD) (redN bN aD) = false := (by rw [← Bool.not_eq_true, mulBad_iff]; omega); obtain ⟨w1, w2, w3, w4, w5⟩ := mul_w (show okR aN aD = true by assumption) (show okR bN bD = true by assumption) hm; simp only [w1, w2] at *; first | omega | (simp [mulN, mulD, mulOK, orZ, *]; done) | (simp_all [mulN, mulD, mulOK, orZ]; done))
        -- 2: (0 : Int) = (mulD aN aD bN bD)
      · first | rfl | omega | (unfold absI; omega) | (simp [mulN, mulD, mulOK, orZ, *]; done) | (have ho := okR_bd (show okR aN aD = true by assumption); have hq := okR_bd (show okR bN bD = true by assumption); omega) | (have hm : mulBad (redN aN bD) (redN bN aD) = true := mulBad_iff.2 ⟨by assumption, by omega⟩; simp [mulN, mulD, mulOK, orZ, *]; done) | (have hm : mulBad (redN aN bD) (redN bN aD) = false := (by rw [← Bool.not_eq_true, mulBad_iff]; omega); obtain ⟨w1, w2, w3, w4, w5⟩ := mul_w (show okR aN aD = true by assumption) (show okR bN bD = true by assumption) hm; simp only [w1, w2] at *; first | omega | (simp [mulN, mulD, mulOK, orZ, *]; done) | (simp_all [mulN, mulD, mulOK, orZ]; done))
      -- 3: (mulOK aN aD bN bD) = false
    · first | rfl | omega | (unfold absI; omega) | (simp [mulN, mulD, mulOK, orZ, *]; done) | (have ho := okR_bd (show okR aN aD = true by assumption); have hq := okR_bd (show okR bN bD = true by assumption); omega) | (have hm : mulBad (redN aN bD) (redN bN aD) = true := mulBad_iff.2 ⟨by assumption, by omega⟩; simp [mulN, mulD, mulOK, orZ, *]; done) | (have hm : mulBad (redN aN bD) (redN bN aD) = false := (by rw [← Bool.not_eq_true, mulBad_iff]; omega); obtain ⟨w1, w2, w3, w4, w5⟩ := mul_w (show okR aN aD = true by assumption) (show okR bN bD = true by assumption) hm; simp only [w1, w2] at *; first | omega | (simp [mulN, mulD, mulOK, orZ, *]; done) | (simp_all [mulN, mulD, mulOK, orZ]; done))
  · intro c2
    refine ⟨⟨rfl, rfl⟩, ?_, ?_⟩
    · intro c3
      refine ⟨?_, ?_⟩
      · refine ⟨?_, ?_⟩
          -- 4: (0 : Int) = (mulN aN aD bN bD)
        · first | rfl | omega | (unfold absI; omega) | (simp [mulN, mulD, mulOK, orZ, *]; done) | (have ho := okR_bd (show okR aN aD = true by assumption); have hq := okR_bd (show okR bN bD = true by assumption); omega) | (have hm : mulBad (redN aN bD) (redN bN aD) = true := mulBad_iff.2 ⟨by assumption, by omega⟩; simp [mulN, mulD, mulOK, orZ, *]; done) | (have hm : mulBad (redN aN bD) (redN bN aD) = false := (by rw [← Bool.not_eq_true, mulBad_iff]; omega); obtain ⟨w1, w2, w3, w4, w5⟩ := mul_w (show okR aN aD = true by assumption) (show okR bN bD = true by assumption) hm; simp only [w1, w2] at *; first | omega | (simp [mulN, mulD, mulOK, orZ, *]; done) | (simp_all [mulN, mulD, mulOK, orZ]; done))
          -- 5: (0 : Int) = (mulD aN aD bN bD)
        · first | rfl | omega | (unfold absI; omega) | (simp [mulN, mulD, mulOK, orZ, *]; done) | (have ho := okR_bd (show okR aN aD = true by assumption); have hq := okR_bd (show okR bN bD = true by assumption); omega) | (have hm : mulBad (redN aN bD) (redN bN aD) = true := mulBad_iff.2 ⟨by assumption, by omega⟩; simp [mulN, mulD, mulOK, orZ, *]; done) | (have hm : mulBad (redN aN bD) (redN bN aD) = false := (by rw [← Bool.not_eq_true, mulBad_iff]; omega); obtain ⟨w1, w2, w3, w4, w5⟩ := mul_w (show okR aN aD = true by assumption) (show okR bN bD = true by assumption) hm; simp only [w1, w2] at *; first | omega | (simp [mulN, mulD, mulOK, orZ, *]; done) | (simp_all [mulN, mulD, mulOK, orZ]; done))
        -- 6: (mulOK aN aD bN bD) = false
      · first | rfl | omega | (unfold absI; omega) | (simp [mulN, mulD, mulOK, orZ, *]; done) | (have ho := okR_bd (show okR aN aD = true by assumption); have hq := okR_bd (show okR bN bD = true by assumption); omega) | (have hm : mulBad (redN aN bD) (redN bN aD) = true := mulBad_iff.2 ⟨by assumption, by omega⟩; simp [mulN, mulD, mulOK, orZ, *]; done) | (have hm : mulBad (redN aN bD) (redN bN aD) = false := (by rw [← Bool.not_eq_true, mulBad_iff]; omega); obtain ⟨w1, w2, w3, w4, w5⟩ := mul_w (show okR aN aD = true by assumption) (show okR bN bD = true by assumption) hm; simp only [w1, w2] at *; first | omega | (simp [mulN, mulD, mulOK, orZ, *]; done) | (simp_all [mulN, mulD, mulOK, orZ]; done))
    · intro c4
      refine ⟨?_, ⟨rfl, rfl⟩, ?_, ⟨rfl, rfl⟩, ?_, ?_⟩
        -- 7: bD ≠ 0
      · first | rfl | omega | (unfold absI; omega) | (simp [mulN, mulD, mulOK, orZ, *]; done) | (have ho := okR_bd (show okR aN aD = true by assumption); have hq := okR_bd (show okR bN bD = true by assumption); omega) | (have hm : mulBad (redN aN bD) (redN bN aD) = true := mulBad_iff.2 ⟨by assumption, by omega⟩; simp [mulN, mulD, mulOK, orZ, *]; done) | (have hm : mulBad (redN aN bD) (redN bN aD) = false := (by rw [← Bool.not_eq_true, mulBad_iff]; omega); obtain ⟨w1, w2, w3, w4, w5⟩ := mul_w (show okR aN aD = true by assumption) (show okR bN bD = true by assumption) hm; simp only [w1, w2] at *; first | omega | (simp [mulN, mulD, mulOK, orZ, *]; done) | (simp_all [mulN, mulD, mulOK, orZ]; done))
        -- 8: aD ≠ 0
      · first | rfl | omega | (unfold absI; omega) | (simp [mulN, mulD, mulOK, orZ, *]; done) | (have ho := okR_bd (show okR aN aD = true by assumption); have hq := okR_bd (show okR bN bD = true by assumption); omega) | (have hm : mulBad (redN aN bD) (redN bN aD) = true := mulBad_iff.2 ⟨by assumption, by omega⟩; simp [mulN, mulD, mulOK, orZ, *]; done) | (have hm : mulBad (redN aN bD) (redN bN aD) = false := (by rw [← Bool.not_eq_true, mulBad_iff]; omega); obtain ⟨w1, w2, w3, w4, w5⟩ := mul_w (show okR aN aD = true by assumption) (show okR bN bD = true by assumption) hm; simp only [w1, w2] at *; first | omega | (simp [mulN, mulD, mulOK, orZ, *]; done) | (simp_all [mulN, mulD, mulOK, orZ]; done))
      · intro c5
        refine ⟨rfl, rfl, ?_, ?_, ?_⟩
          -- 9: (absI (redN aN bD)) ≠ 0
        · first | rfl | omega | (unfold absI; omega) | (simp [mulN, mulD, mulOK, orZ, *]; done) | (have ho := okR_bd (show okR aN aD = true by assumption); have hq := okR_bd (show okR bN bD = true by assumption); omega) | (have hm : mulBad (redN aN bD) (redN bN aD) = true := mulBad_iff.2 ⟨by assumption, by omega⟩; simp [mulN, mulD, mulOK, orZ, *]; done) | (have hm : mulBad (redN aN bD) (redN bN aD) = false := (by rw [← Bool.not_eq_true, mulBad_iff]; omega); obtain ⟨w1, w2, w3, w4, w5⟩ := mul_w (show okR aN aD = true by assumption) (show okR bN bD = true by assumption) hm; simp only [w1, w2] at *; first | omega | (simp [mulN, mulD, mulOK, orZ, *]; done) | (simp_all [mulN, mulD, mulOK, orZ]; done))
        · intro c6
          refine ⟨?_, ?_⟩
          · refine ⟨?_, ?_⟩
              -- 10: (0 : Int) = (mulN aN aD bN bD)
            · first | rfl | omega | (unfold absI; omega) | (simp [mulN, mulD, mulOK, orZ, *]; done) | (have ho := okR_bd (show okR aN aD = true by assumption); have hq := okR_bd (show okR bN bD = true by assumption); omega) | (have hm : mulBad (redN aN bD) (redN bN aD) = true := mulBad_iff.2 ⟨by assumption, by omega⟩; simp [mulN, mulD, mulOK, orZ, *]; done) | (have hm : mulBad (redN aN bD) (redN bN aD) = false := (by rw [← Bool.not_eq_true, mulBad_iff]; omega); obtain ⟨w1, w2, w3, w4, w5⟩ := mul_w (show okR aN aD = true by assumption) (show okR bN bD = true by assumption) hm; simp only [w1, w2] at *; first | omega | (simp [mulN, mulD, mulOK, orZ, *]; done) | (simp_all [mulN, mulD, mulOK, orZ]; done))
              -- 11: (0 : Int) = (mulD aN aD bN bD)
            · first | rfl | omega | (unfold absI; omega) | (simp [mulN, mulD, mulOK, orZ, *]; done) | (have ho := okR_bd (show okR aN aD = true by assumption); have hq := okR_bd (show okR bN bD = true by assumption); omega) | (have hm : mulBad (redN aN bD) (redN bN aD) = true := mulBad_iff.2 ⟨by assumption, by omega⟩; simp [mulN, mulD, mulOK, orZ, *]; done) | (have hm : mulBad (redN aN bD) (redN bN aD) = false := (by rw [← Bool.not_eq_true, mulBad_iff]; omega); obtain ⟨w1, w2, w3, w4, w5⟩ := mul_w (show okR aN aD = true by assumption) (show okR bN bD = true by assumption) hm; simp only [w1, w2] at *; first | omega | (simp [mulN, mulD, mulOK, orZ, *]; done) | (simp_all [mulN, mulD, mulOK, orZ]; done))
            -- 12: (mulOK aN aD bN bD) = false
          · first | rfl | omega | (unfold absI; omega) | (simp [mulN, mulD, mulOK, orZ, *]; done) | (have ho := okR_bd (show okR aN aD = true by assumption); have hq := okR_bd (show okR bN bD = true by assumption); omega) | (have hm : mulBad (redN aN bD) (redN bN aD) = true := mulBad_iff.2 ⟨by assumption, by omega⟩; simp [mulN, mulD, mulOK, orZ, *]; done) | (have hm : mulBad (redN aN bD) (redN bN aD) = false := (by rw [← Bool.not_eq_true, mulBad_iff]; omega); obtain ⟨w1, w2, w3, w4, w5⟩ := mul_w (show okR aN aD = true by assumption) (show okR bN bD = true by assumption) hm; simp only [w1, w2] at *; first | omega | (simp [mulN, mulD, mulOK, orZ, *]; done) | (simp_all [mulN, mulD, mulOK, orZ]; done))
        · intro c7
          refine ⟨?_, ?_, ?_⟩
          · refine ⟨?_, rfl, ?_⟩
            · refine ⟨rfl, ?_⟩
              intro c8
              -- 13: (-4000000000000000000) ≤ (IntKind.i64.wrap ((redN aN bD) * (redN bN aD))) ∧ (IntKind.i64.wrap ((redN
              first | rfl | omega | (unfold absI; omega) | (simp [mulN, mulD, mulOK, orZ, *]; done) | (have ho := okR_bd (show okR aN aD = true by assumption); have hq := okR_bd (show okR bN bD = true by assumption); omega) | (have hm : mulBad (redN aN bD) (redN bN aD) = true := mulBad_iff.2 ⟨by assumption, by omega⟩; simp [mulN, mulD, mulOK, orZ, *]; done) | (have hm : mulBad (redN aN bD) (redN bN aD) = false := (by rw [← Bool.not_eq_true, mulBad_iff]; omega); obtain ⟨w1, w2, w3, w4, w5⟩ := mul_w (show okR aN aD = true by assumption) (show okR bN bD = true by assumption) hm; simp only [w1, w2] at *; first | omega | (simp [mulN, mulD, mulOK, orZ, *]; done) | (simp_all [mulN, mulD, mulOK, orZ]; done))
            · intro c9
              -- 14: (-4000000000000000000) ≤ (IntKind.i64.wrap ((redD aN bD) * (redD bN aD))) ∧ (IntKind.i64.wrap ((redD
              first | rfl | omega | (unfold absI; omega) | (simp [mulN, mulD, mulOK, orZ, *]; done) | (have ho := okR_bd (show okR aN aD = true by assumption); have hq := okR_bd (show okR bN bD = true by assumption); omega) | (have hm : mulBad (redN aN bD) (redN bN aD) = true := mulBad_iff.2 ⟨by assumption, by omega⟩; simp [mulN, mulD, mulOK, orZ, *]; done) | (have hm : mulBad (redN aN bD) (redN bN aD) = false := (by rw [← Bool.not_eq_true, mulBad_iff]; omega); obtain ⟨w1, w2, w3, w4, w5⟩ := mul_w (show okR aN aD = true by assumption) (show okR bN bD = true by assumption) hm; simp only [w1, w2] at *; first | omega | (simp [mulN, mulD, mulOK, orZ, *]; done) | (simp_all [mulN, mulD, mulOK, orZ]; done))
          · refine ⟨?_, ?_⟩
              -- 15: (orZ (okR (IntKind.i64.wrap ((redN aN bD) * (redN bN aD))) (IntKind.i64.wrap ((redD aN bD) * (redD b
            · first | rfl | omega | (unfold absI; omega) | (simp [mulN, mulD, mulOK, orZ, *]; done) | (have ho := okR_bd (show okR aN aD = true by assumption); have hq := okR_bd (show okR bN bD = true by assumption); omega) | (have hm : mulBad (redN aN bD) (redN bN aD) = true := mulBad_iff.2 ⟨by assumption, by omega⟩; simp [mulN, mulD, mulOK, orZ, *]; done) | (have hm : mulBad (redN aN bD) (redN bN aD) = false := (by rw [← Bool.not_eq_true, mulBad_iff]; omega); obtain ⟨w1, w2, w3, w4, w5⟩ := mul_w (show okR aN aD = true by assumption) (show okR bN bD = true by assumption) hm; simp only [w1, w2] at *; first | omega | (simp [mulN, mulD, mulOK, orZ, *]; done) | (simp_all [mulN, mulD, mulOK, orZ]; done))
              -- 16: (orZ (okR (IntKind.i64.wrap ((redN aN bD) * (redN bN aD))) (IntKind.i64.wrap ((redD aN bD) * (redD b
            · first | rfl | omega | (unfold absI; omega) | (simp [mulN, mulD, mulOK, orZ, *]; done) | (have ho := okR_bd (show okR aN aD = true by assumption); have hq := okR_bd (show okR bN bD = true by assumption); omega) | (have hm : mulBad (redN aN bD) (redN bN aD) = true := mulBad_iff.2 ⟨by assumption, by omega⟩; simp [mulN, mulD, mulOK, orZ, *]; done) | (have hm : mulBad (redN aN bD) (redN bN aD) = false := (by rw [← Bool.not_eq_true, mulBad_iff]; omega); obtain ⟨w1, w2, w3, w4, w5⟩ := mul_w (show okR aN aD = true by assumption) (show okR bN bD = true by assumption) hm; simp only [w1, w2] at *; first | omega | (simp [mulN, mulD, mulOK, orZ, *]; done) | (simp_all [mulN, mulD, mulOK, orZ]; done))
            -- 17: ((okR (IntKind.i64.wrap ((redN aN bD) * (redN bN aD))) (IntKind.i64.wrap ((redD aN bD) * (redD bN aD
          · first | rfl | omega | (unfold absI; omega) | (simp [mulN, mulD, mulOK, orZ, *]; done) | (have ho := okR_bd (show okR aN aD = true by assumption); have hq := okR_bd (show okR bN bD = true by assumption); omega) | (have hm : mulBad (redN aN bD) (redN bN aD) = true := mulBad_iff.2 ⟨by assumption, by omega⟩; simp [mulN, mulD, mulOK, orZ, *]; done) | (have hm : mulBad (redN aN bD) (redN bN aD) = false := (by rw [← Bool.not_eq_true, mulBad_iff]; omega); obtain ⟨w1, w2, w3, w4, w5⟩ := mul_w (show okR aN aD = true by assumption) (show okR bN bD = true by assumption) hm; simp only [w1, w2] at *; first | omega | (simp [mulN, mulD, mulOK, orZ, *]; done) | (simp_all [mulN, mulD, mulOK, orZ]; done))
      · intro c10
        refine ⟨?_, ?_, ?_⟩
        · refine ⟨?_, rfl, ?_⟩
          · refine ⟨rfl, ?_⟩
            intro c11
            -- 18: (-4000000000000000000) ≤ (IntKind.i64.wrap ((redN aN bD) * (redN bN aD))) ∧ (IntKind.i64.wrap ((redN
            first | rfl | omega | (unfold absI; omega) | (simp [mulN, mulD, mulOK, orZ, *]; done) | (have ho := okR_bd (show okR aN aD = true by assumption); have hq := okR_bd (show okR bN bD = true by assumption); omega) | (have hm : mulBad (redN aN bD) (redN bN aD) = true := mulBad_iff.2 ⟨by assumption, by omega⟩; simp [mulN, mulD, mulOK, orZ, *]; done) | (have hm : mulBad (redN aN bD) (redN bN aD) = false := (by rw [← Bool.not_eq_true, mulBad_iff]; omega); obtain ⟨w1, w2, w3, w4, w5⟩ := mul_w (show okR aN aD = true by assumption) (show okR bN bD = true by assumption) hm; simp only [w1, w2] at *; first | omega | (simp [mulN, mulD, mulOK, orZ, *]; done) | (simp_all [mulN, mulD, mulOK, orZ]; done))
          · intro c12
            -- 19: (-4000000000000000000) ≤ (IntKind.i64.wrap ((redD aN bD) * (redD bN aD))) ∧ (IntKind.i64.wrap ((redD
            first | rfl | omega | (unfold absI; omega) | (simp [mulN, mulD, mulOK, orZ, *]; done) | (have ho := okR_bd (show okR aN aD = true by assumption); have hq := okR_bd (show okR bN bD = true by assumption); omega) | (have hm : mulBad (redN aN bD) (redN bN aD) = true := mulBad_iff.2 ⟨by assumption, by omega⟩; simp [mulN, mulD, mulOK, orZ, *]; done) | (have hm : mulBad (redN aN bD) (redN bN aD) = false := (by rw [← Bool.not_eq_true, mulBad_iff]; omega); obtain ⟨w1, w2, w3, w4, w5⟩ := mul_w (show okR aN aD = true by assumption) (show okR bN bD = true by assumption) hm; simp only [w1, w2] at *; first | omega | (simp [mulN, mulD, mulOK, orZ, *]; done) | (simp_all [mulN, mulD, mulOK, orZ]; done))
        · refine ⟨?_, ?_⟩
            -- 20: (orZ (okR (IntKind.i64.wrap ((redN aN bD) * (redN bN aD))) (IntKind.i64.wrap ((redD aN bD) * (redD b
          · first | rfl | omega | (unfold absI; omega) | (simp [mulN, mulD, mulOK, orZ, *]; done) | (have ho := okR_bd (show okR aN aD = true by assumption); have hq := okR_bd (show okR bN bD = true by assumption); omega) | (have hm : mulBad (redN aN bD) (redN bN aD) = true := mulBad_iff.2 ⟨by assumption, by omega⟩; simp [mulN, mulD, mulOK, orZ, *]; done) | (have hm : mulBad (redN aN bD) (redN bN aD) = false := (by rw [← Bool.not_eq_true, mulBad_iff]; omega); obtain ⟨w1, w2, w3, w4, w5⟩ := mul_w (show okR aN aD = true by assumption) (show okR bN bD = true by assumption) hm; simp only [w1, w2] at *; first | omega | (simp [mulN, mulD, mulOK, orZ, *]; done) | (simp_all [mulN, mulD, mulOK, orZ]; done))
            -- 21: (orZ (okR (IntKind.i64.wrap ((redN aN bD) * (redN bN aD))) (IntKind.i64.wrap ((redD aN bD) * (redD b
          · first | rfl | omega | (unfold absI; omega) | (simp [mulN, mulD, mulOK, orZ, *]; done) | (have ho := okR_bd (show okR aN aD = true by assumption); have hq := okR_bd (show okR bN bD = true by assumption); omega) | (have hm : mulBad (redN aN bD) (redN bN aD) = true := mulBad_iff.2 ⟨by assumption, by omega⟩; simp [mulN, mulD, mulOK, orZ, *]; done) | (have hm : mulBad (redN aN bD) (redN bN aD) = false := (by rw [← Bool.not_eq_true, mulBad_iff]; omega); obtain ⟨w1, w2, w3, w4, w5⟩ := mul_w (show okR aN aD = true by assumption) (show okR bN bD = true by assumption) hm; simp only [w1, w2] at *; first | omega | (simp [mulN, mulD, mulOK, orZ, *]; done) | (simp_all [mulN, mulD, mulOK, orZ]; done))
          -- 22: ((okR (IntKind.i64.wrap ((redN aN bD) * (redN bN aD))) (IntKind.i64.wrap ((redD aN bD) * (redD bN aD
        · first | rfl | omega | (unfold absI; omega) | (simp [mulN, mulD, mulOK, orZ, *]; done) | (have ho := okR_bd (show okR aN aD = true by assumption); have hq := okR_bd (show okR bN bD = true by assumption); omega) | (have hm : mulBad (redN aN bD) (redN bN aD) = true := mulBad_iff.2 ⟨by assumption, by omega⟩; simp [mulN, mulD, mulOK, orZ, *]; done) | (have hm : mulBad (redN aN bD) (redN bN aD) = false := (by rw [← Bool.not_eq_true, mulBad_iff]; omega); obtain ⟨w1, w2, w3, w4, w5⟩ := mul_w (show okR aN aD = true by assumption) (show okR bN bD = true by assumption) hm; simp only [w1, w2] at *; first | omega | (simp [mulN, mulD, mulOK, orZ, *]; done) | (simp_all [mulN, mulD, mulOK, orZ]; done))
def c_s_MulRats (aN : Int) (aD : Int) (bN : Int) (bD : Int) : Cn Try.prog := ⟨_, _, _, _, _, s_MulRats aN aD bN bD⟩
def rrN (C : Int → Int) (n p : Int) : Int := redN (pk C n p 40 - 15) (1 + pk C n (p + 1) 9)
def rrD (C : Int → Int) (n p : Int) : Int := redD (pk C n p 40 - 15) (1 + pk C n (p + 1) 9)
def qS (C : Int → Int) (n p : Int) : Int := pk C n (p + 1 + 1) 16
def qN (C : Int → Int) (n p : Int) : Int := if qS C n p = 1 then 2 else if qS C n p = 2 then selL [100000000000, -100000000000, 100000000001] (pk C n (p + 1 + 1 + 1) 3) else rrN C n p
def qD (C : Int → Int) (n p : Int) : Int := if qS C n p = 0 then selL [0, -1, 20000001, 20000000] (pk C n (p + 1 + 1 + 1) 4) else if qS C n p = 1 then 4 else if qS C n p = 2 then 1 else rrD C n p
def qP (C : Int → Int) (n p : Int) : Int := if qS C n p = 0 then p + 1 + 1 + 1 + 1 else if qS C n p = 1 then p + 1 + 1 + 1 else if qS C n p = 2 then p + 1 + 1 + 1 + 1 else p + 1 + 1 + 1
theorem qP_bd (C : Int → Int) (n p : Int) : p + 3 ≤ qP C n p ∧ qP C n p ≤ p + 4 := by unfold qP; split <;> (try split) <;> (try split) <;> omega
theorem one_3w (C : Int → Int) (n : Int) (p : Int) (L : Int → Int) : RunsTo Try.prog 130 [(.ptr 0 2 (.lit 0) 0), (.sl 1 1 (.lit 0) (.lit 3) 3)] [some ⟨117, 2, true, (.lit [[(.sl 2 1 (.lit 0) (.v fun _ => n) 2000), (.int .i64 (.v fun _ => p) 0 9999990)]])⟩, some ⟨3, 1, true, (.sym (.lit 3) fun e => [(.int .i64 (.v fun _ => (L (e.den))) (-200000000000) 200000000000)])⟩, some ⟨5, 1, false, (.sym (.v fun _ => n) fun e => [(.int .u8 (.v fun _ => (C (e.den))) 0 255)])⟩] (.int .i64 (.v fun _ => (L (pk C n p 3))) (-200000000000) 200000000000) [some ⟨117, 2, true, (.lit [[(.sl 2 1 (.lit 0) (.v fun _ => n) 2000), (.int .i64 (.v fun _ => p + 1) 0 9999991)]])⟩, some ⟨3, 1, true, (.sym (.lit 3) fun e => [(.int .i64 (.v fun _ => (L (e.den))) (-200000000000) 200000000000)])⟩, some ⟨5, 1, false, (.sym (.v fun _ => n) fun e => [(.int .u8 (.v fun _ => (C (e.den))) 0 255)])⟩] := by
  refine RunsTo.go env Try.func130 rfl Try.call130 rfl rfl (fun _ _ => (.callF (c_pick_3 C n p) (.need (.need .ret)))) (G := (True) → (((0 ≤ n ∧ n ≤ 2000) ∧ (0 ≤ p ∧ p ≤ 9999990)) ∧ ((∀ e5 : E, ((0 ≤ e5.den ∧ e5.den < 3) → ((-200000000000) ≤ ((L (e5.den))) ∧ ((L (e5.den))) ≤ 200000000000))) ∧ (∀ e4 : E, ((0 ≤ e4.den ∧ e4.den < n) → (0 ≤ ((C (e4.den))) ∧ ((C (e4.den))) ≤ 255))))) → (((0 ≤ (3 : Int) ∧ (3 : Int) ≤ 3) → (3 ≤ (3 : Int) ∧ (3 : Int) ≤ 3)) ∧ ((((n = n) ∧ (p = p)) ∧ ((n ≤ n) ∧ (∀ e1 : E, ((0 ≤ e1.den ∧ e1.den < n) → (((C (e1.den))) = ((C (e1.den)))))))) ∧ ((0 ≤ (pk C n p 3) ∧ (pk C n p 3) ≤ 2) → ((((0 ≤ (pk C n p 3)) ∧ ((pk C n p 3) < 3))) ∧ (((pk C n p 3) < 3) ∧ ((((L (pk C n p 3))) = ((L (pk C n p 3)))) ∧ (((n = n) ∧ (((p + 1) = (p + 1)) ∧ ((0 ≤ (p + 1) ∧ (p + 1) ≤ 10000001) → (0 ≤ (p + 1) ∧ (p + 1) ≤ 9999991)))) ∧ ((((3 : Int) ≤ 3) ∧ (∀ e3 : E, ((0 ≤ e3.den ∧ e3.den < 3) → (((L (e3.den))) = ((L (e3.den))))))) ∧ ((n ≤ n) ∧ (∀ e2 : E, ((0 ≤ e2.den ∧ e2.den < n) → (((C (e2.den))) = ((C (e2.den)))))))))))))))) (by kernel_rfl) ?_
  intro h1 h2
  refine ⟨?_, ⟨⟨rfl, rfl⟩, ⟨Int.le_refl _, fun _ => fun _ => rfl⟩⟩, ?_⟩
  · intro c6
    -- 1: 3 ≤ (3 : Int) ∧ (3 : Int) ≤ 3
    first | rfl | omega
  · intro c7
    refine ⟨?_, ?_, rfl, ?_, ⟨Int.le_refl _, fun _ => fun _ => rfl⟩, Int.le_refl _, fun _ => fun _ => rfl⟩
      -- 2: ((0 ≤ (pk C n p 3)) ∧ ((pk C n p 3) < 3))
    · first | rfl | omega
      -- 3: (pk C n p 3) < 3
    · first | rfl | omega
    · refine ⟨rfl, rfl, ?_⟩
      intro c8
      -- 4: 0 ≤ (p + 1) ∧ (p + 1) ≤ 9999991
      first | rfl | omega
def c_one_3w (C : Int → Int) (n : Int) (p : Int) (L : Int → Int) : Cn Try.prog := ⟨_, _, _, _, _, one_3w C n p L⟩
theorem one_4w (C : Int → Int) (n : Int) (p : Int) (L : Int → Int) : RunsTo Try.prog 130 [(.ptr 0 2 (.lit 0) 0), (.sl 1 1 (.lit 0) (.lit 4) 4)] [some ⟨117, 2, true, (.lit [[(.sl 2 1 (.lit 0) (.v fun _ => n) 2000), (.int .i64 (.v fun _ => p) 0 9999990)]])⟩, some ⟨3, 1, true, (.sym (.lit 4) fun e => [(.int .i64 (.v fun _ => (L (e.den))) (-200000000000) 200000000000)])⟩, some ⟨5, 1, false, (.sym (.v fun _ => n) fun e => [(.int .u8 (.v fun _ => (C (e.den))) 0 255)])⟩] (.int .i64 (.v fun _ => (L (pk C n p 4))) (-200000000000) 200000000000) [some ⟨117, 2, true, (.lit [[(.sl 2 1 (.lit 0) (.v fun _ => n) 2000), (.int .i64 (.v fun _ => p + 1) 0 9999991)]])⟩, some ⟨3, 1, true, (.sym (.lit 4) fun e => [(.int .i64 (.v fun _ => (L (e.den))) (-200000000000) 200000000000)])⟩, some ⟨5, 1, false, (.sym (.v fun _ => n) fun e => [(.int .u8 (.v fun _ => (C (e.den))) 0 255)])⟩] := by
  refine RunsTo.go env Try.func130 rfl Try.call130 rfl rfl (fun _ _ => (.callF (c_pick_4 C n p) (.need (.need .ret)))) (G := (True) → (((0 ≤ n ∧ n ≤ 2000) ∧ (0 ≤ p ∧ p ≤ 9999990)) ∧ ((∀ e5 : E, ((0 ≤ e5.den ∧ e5.den < 4) → ((-200000000000) ≤ ((L (e5.den))) ∧ ((L (e5.den))) ≤ 200000000000))) ∧ (∀ e4 : E, ((0 ≤ e4.den ∧ e4.den < n) → (0 ≤ ((C (e4.den))) ∧ ((C (e4.den))) ≤ 255))))) → (((0 ≤ (4 : Int) ∧ (4 : Int) ≤ 4) → (4 ≤ (4 : Int) ∧ (4 : Int) ≤ 4)) ∧ ((((n = n) ∧ (p = p)) ∧ ((n ≤ n) ∧ (∀ e1 : E, ((0 ≤ e1.den ∧ e1.den < n) → (((C (e1.den))) = ((C (e1.den)))))))) ∧ ((0 ≤ (pk C n p 4) ∧ (pk C n p 4) ≤ 3) → ((((0 ≤ (pk C n p 4)) ∧ ((pk C n p 4) < 4))) ∧ (((pk C n p 4) < 4) ∧ ((((L (pk C n p 4))) = ((L (pk C n p 4)))) ∧ (((n = n) ∧ (((p + 1) = (p + 1)) ∧ ((0 ≤ (p + 1) ∧ (p + 1) ≤ 10000001) → (0 ≤ (p + 1) ∧ (p + 1) ≤ 9999991)))) ∧ ((((4 : Int) ≤ 4) ∧ (∀ e3 : E, ((0 ≤ e3.den ∧ e3.den < 4) → (((L (e3.den))) = ((L (e3.den))))))) ∧ ((n ≤ n) ∧ (∀ e2 : E, ((0 ≤ e2.den ∧ e2.den < n) → (((C (e2.den))) = ((C (e2.den)))))))))))))))) (by kernel_rfl) ?_
  intro h1 h2
  refine ⟨?_, ⟨⟨rfl, rfl⟩, ⟨Int.le_refl _, fun _ => fun _ => rfl⟩⟩, ?_⟩
  · intro c6
    -- 1: 4 ≤ (4 : Int) ∧ (4 : Int) ≤ 4
    first | rfl | omega
  · intro c7
    refine ⟨?_, ?_, rfl, ?_, ⟨Int.le_refl _, fun _ => fun _ => rfl⟩, Int.le_refl _, fun _ => fun _ => rfl⟩
      -- 2: ((0 ≤ (pk C n p 4)) ∧ ((pk C n p 4) < 4))
    · first | rfl | omega
      -- 3: (pk C n p 4) < 4
    · first | rfl | omega
    · refine ⟨rfl, rfl, ?_⟩
      intro c8
      -- 4: 0 ≤ (p + 1) ∧ (p + 1) ≤ 9999991
      first | rfl | omega
def c_one_4w (C : Int → Int) (n : Int) (p : Int) (L : Int → Int) : Cn Try.prog := ⟨_, _, _, _, _, one_4w C n p L⟩
theorem randomRat (C : Int → Int) (n : Int) (p : Int) : RunsTo Try.prog 141 [(.ptr 0 2 (.lit 0) 0)] [some ⟨117, 2, true, (.lit [[(.sl 1 1 (.lit 0) (.v fun _ => n) 2000), (.int .i64 (.v fun _ => p) 0 9999900)]])⟩, some ⟨5, 1, false, (.sym (.v fun _ => n) fun e => [(.int .u8 (.v fun _ => (C (e.den))) 0 255)])⟩] (.agg [(.int .i64 (.v fun _ => rrN C n p) (-40) 40), (.int .i64 (.v fun _ => rrD C n p) 1 10)]) [some ⟨117, 2, true, (.lit [[(.sl 1 1 (.lit 0) (.v fun _ => n) 2000), (.int .i64 (.v fun _ => p + 1 + 1) 0 9999902)]])⟩, some ⟨5, 1, false, (.sym (.v fun _ => n) fun e => [(.int .u8 (.v fun _ => (C (e.den))) 0 255)])⟩] := by
  refine RunsTo.go env Try.func141 rfl Try.call141 rfl rfl (fun _ _ => (.call (c_pick_40 C n p) (.call (c_pick_9 C n (p + 1)) (.callH (c_s_ratio ((pk C n p 40) - 15) (1 + (pk C n (p + 1) 9))) .ret)))) (G := (True) → (((0 ≤ n ∧ n ≤ 2000) ∧ (0 ≤ p ∧ p ≤ 9999900)) ∧ (∀ e4 : E, ((0 ≤ e4.den ∧ e4.den < n) → (0 ≤ ((C (e4.den))) ∧ ((C (e4.den))) ≤ 255)))) → ((((n = n) ∧ (p = p)) ∧ ((n ≤ n) ∧ (∀ e1 : E, ((0 ≤ e1.den ∧ e1.den < n) → (((C (e1.den))) = ((C (e1.den)))))))) ∧ ((((n = n) ∧ (((p + 1) = (p + 1)) ∧ ((0 ≤ (p + 1) ∧ (p + 1) ≤ 10000001) → (0 ≤ (p + 1) ∧ (p + 1) ≤ 10000000)))) ∧ ((n ≤ n) ∧ (∀ e2 : E, ((0 ≤ e2.den ∧ e2.den < n) → (((C (e2.den))) = ((C (e2.den)))))))) ∧ (((1 + (pk C n (p + 1) 9)) ≠ 0) ∧ (((((pk C n p 40) - 15) = ((pk C n p 40) - 15)) ∧ ((1 + (pk C n (p + 1) 9)) = (1 + (pk C n (p + 1) 9)))) ∧ (((((redN ((pk C n p 40) - 15) (1 + (pk C n (p + 1) 9))) = (rrN C n p)) ∧ (((-4000000000000000000) ≤ (redN ((pk C n p 40) - 15) (1 + (pk C n (p + 1) 9))) ∧ (redN ((pk C n p 40) - 15) (1 + (pk C n (p + 1) 9))) ≤ 4000000000000000000) → ((-40) ≤ (rrN C n p) ∧ (rrN C n p) ≤ 40))) ∧ (((redD ((pk C n p 40) - 15) (1 + (pk C n (p + 1) 9))) = (rrD C n p)) ∧ (((-4000000000000000000) ≤ (redD ((pk C n p 40) - 15) (1 + (pk C n (p + 1) 9))) ∧ (redD ((pk C n p 40) - 15) (1 + (pk C n (p + 1) 9))) ≤ 4000000000000000000) → (1 ≤ (rrD C n p) ∧ (rrD C n p) ≤ 10)))) ∧ (((n = n) ∧ ((((p + 1) + 1) = (p + 1 + 1)) ∧ ((0 ≤ ((p + 1) + 1) ∧ ((p + 1) + 1) ≤ 10000001) → (0 ≤ (p + 1 + 1) ∧ (p + 1 + 1) ≤ 9999902)))) ∧ ((n ≤ n) ∧ (∀ e3 : E, ((0 ≤ e3.den ∧ e3.den < n) → (((C (e3.den))) = ((C (e3.den)))))))))))))) (by kernel_rfl) ?_
  intro h1 h2
  have hC : ∀ i, 0 ≤ i → i < n → 0 ≤ C i ∧ C i ≤ 255 := fun i a b => h2.2 (.v fun _ => i) ⟨a, b⟩
  have b1 := pk_bd (p := p) (k := 40) hC (by omega) (by omega) (by omega) (by omega)
  have b2 := pk_bd (p := p + 1) (k := 9) hC (by omega) (by omega) (by omega) (by omega)
  have b3 := redN_bd (pk C n p 40 - 15) (1 + pk C n (p + 1) 9) 40 (by omega) (by omega) (by omega)
  have b4 := redD_bd (pk C n p 40 - 15) (1 + pk C n (p + 1) 9) 10 (by omega) (by omega)
  refine ⟨⟨⟨rfl, rfl⟩, ⟨Int.le_refl _, fun _ => fun _ => rfl⟩⟩, ?_, ?_, ⟨rfl, rfl⟩, ?_, ?_, Int.le_refl _, fun _ => fun _ => rfl⟩
  · refine ⟨?_, Int.le_refl _, fun _ => fun _ => rfl⟩
    refine ⟨rfl, rfl, ?_⟩
    intro c5
    -- 1: 0 ≤ (p + 1) ∧ (p + 1) ≤ 10000000
    first | rfl | omega | exact b3 | exact b4
    -- 2: (1 + (pk C n (p + 1) 9)) ≠ 0
  · first | rfl | omega | exact b3 | exact b4
  · refine ⟨?_, ?_, ?_⟩
    · refine ⟨?_, ?_⟩
        -- 3: (redN ((pk C n p 40) - 15) (1 + (pk C n (p + 1) 9))) = (rrN C n p)
      · first | rfl | omega | exact b3 | exact b4
      · intro c6
        -- 4: (-40) ≤ (rrN C n p) ∧ (rrN C n p) ≤ 40
        first | rfl | omega | exact b3 | exact b4
      -- 5: (redD ((pk C n p 40) - 15) (1 + (pk C n (p + 1) 9))) = (rrD C n p)
    · first | rfl | omega | exact b3 | exact b4
    · intro c7
      -- 6: 1 ≤ (rrD C n p) ∧ (rrD C n p) ≤ 10
      first | rfl | omega | exact b3 | exact b4
  · refine ⟨rfl, ?_, ?_⟩
      -- 7: ((p + 1) + 1) = (p + 1 + 1)
    · first | rfl | omega | exact b3 | exact b4
    · intro c8
      -- 8: 0 ≤ (p + 1 + 1) ∧ (p + 1 + 1) ≤ 9999902
      first | rfl | omega | exact b3 | exact b4
def c_randomRat (C : Int → Int) (n : Int) (p : Int) : Cn Try.prog := ⟨_, _, _, _, _, randomRat C n p⟩
theorem anyRat (C : Int → Int) (n : Int) (p : Int) : RunsTo Try.prog 125 [(.ptr 0 2 (.lit 0) 0)] [some ⟨117, 2, true, (.lit [[(.sl 1 1 (.lit 0) (.v fun _ => n) 2000), (.int .i64 (.v fun _ => p) 0 9999800)]])⟩, some ⟨5, 1, false, (.sym (.v fun _ => n) fun e => [(.int .u8 (.v fun _ => (C (e.den))) 0 255)])⟩] (.agg [(.int .i64 (.v fun _ => qN C n p) (-200000000000) 200000000000), (.int .i64 (.v fun _ => qD C n p) (-200000000000) 200000000000)]) [some ⟨117, 2, true, (.lit [[(.sl 1 1 (.lit 0) (.v fun _ => n) 2000), (.int .i64 (.v fun _ => qP C n p) 0 9999810)]])⟩, some ⟨5, 1, false, (.sym (.v fun _ => n) fun e => [(.int .u8 (.v fun _ => (C (e.den))) 0 255)])⟩] := by
  refine RunsTo.go env Try.func125 rfl Try.call125 rfl rfl (fun _ _ => (.call (c_randomRat C n p) (.call (c_pick_16 C n (p + 1 + 1)) (.ite (.call (c_one_4w C n ((p + 1 + 1) + 1) (selL [0, (-1), 20000001, 20000000])) .ret) (.ite .ret (.ite (.call (c_one_3w C n ((p + 1 + 1) + 1) (selL [100000000000, (-100000000000), 100000000001])) .ret) .ret)))))) (G := (True) → (((0 ≤ n ∧ n ≤ 2000) ∧ (0 ≤ p ∧ p ≤ 9999800)) ∧ (∀ e16 : E, ((0 ≤ e16.den ∧ e16.den < n) → (0 ≤ ((C (e16.den))) ∧ ((C (e16.den))) ≤ 255)))) → ((((n = n) ∧ (p = p)) ∧ ((n ≤ n) ∧ (∀ e1 : E, ((0 ≤ e1.den ∧ e1.den < n) → (((C (e1.den))) = ((C (e1.den)))))))) ∧ ((((n = n) ∧ ((p + 1 + 1) = (p + 1 + 1))) ∧ ((n ≤ n) ∧ (∀ e2 : E, ((0 ≤ e2.den ∧ e2.den < n) → (((C (e2.den))) = ((C (e2.den)))))))) ∧ ((((pk C n (p + 1 + 1) 16) = 0) → ((((n = n) ∧ ((((p + 1 + 1) + 1) = ((p + 1 + 1) + 1)) ∧ ((0 ≤ ((p + 1 + 1) + 1) ∧ ((p + 1 + 1) + 1) ≤ 10000001) → (0 ≤ ((p + 1 + 1) + 1) ∧ ((p + 1 + 1) + 1) ≤ 9999990)))) ∧ (((∀ e7 : E, ((e7.den = 0) → ((0 : Int) = (selL [0, (-1), 20000001, 20000000] (e7.den))))) ∧ ((∀ e6 : E, ((e6.den = 1) → (((-1) : Int) = (selL [0, (-1), 20000001, 20000000] (e6.den))))) ∧ ((∀ e5 : E, ((e5.den = 2) → ((20000001 : Int) = (selL [0, (-1), 20000001, 20000000] (e5.den))))) ∧ (∀ e4 : E, ((e4.den = 3) → ((20000000 : Int) = (selL [0, (-1), 20000001, 20000000] (e4.den)))))))) ∧ ((n ≤ n) ∧ (∀ e3 : E, ((0 ≤ e3.den ∧ e3.den < n) → (((C (e3.den))) = ((C (e3.den))))))))) ∧ ((((rrN C n p) = (qN C n p)) ∧ (((selL [0, (-1), 20000001, 20000000] (pk C n ((p + 1 + 1) + 1) 4))) = (qD C n p))) ∧ (((n = n) ∧ (((((p + 1 + 1) + 1) + 1) = (qP C n p)) ∧ ((0 ≤ (((p + 1 + 1) + 1) + 1) ∧ (((p + 1 + 1) + 1) + 1) ≤ 9999991) → (0 ≤ (qP C n p) ∧ (qP C n p) ≤ 9999810)))) ∧ ((n ≤ n) ∧ (∀ e8 : E, ((0 ≤ e8.den ∧ e8.den < n) → (((C (e8.den))) = ((C (e8.den))))))))))) ∧ (((pk C n (p + 1 + 1) 16) ≠ 0) → ((((pk C n (p + 1 + 1) 16) = 1) → ((((2 : Int) = (qN C n p)) ∧ ((4 : Int) = (qD C n p))) ∧ (((n = n) ∧ ((((p + 1 + 1) + 1) = (qP C n p)) ∧ ((0 ≤ ((p + 1 + 1) + 1) ∧ ((p + 1 + 1) + 1) ≤ 10000001) → (0 ≤ (qP C n p) ∧ (qP C n p) ≤ 9999810)))) ∧ ((n ≤ n) ∧ (∀ e9 : E, ((0 ≤ e9.den ∧ e9.den < n) → (((C (e9.den))) = ((C (e9.den)))))))))) ∧ (((pk C n (p + 1 + 1) 16) ≠ 1) → ((((pk C n (p + 1 + 1) 16) = 2) → ((((n = n) ∧ ((((p + 1 + 1) + 1) = ((p + 1 + 1) + 1)) ∧ ((0 ≤ ((p + 1 + 1) + 1) ∧ ((p + 1 + 1) + 1) ≤ 10000001) → (0 ≤ ((p + 1 + 1) + 1) ∧ ((p + 1 + 1) + 1) ≤ 9999990)))) ∧ (((∀ e13 : E, ((e13.den = 0) → ((100000000000 : Int) = (selL [100000000000, (-100000000000), 100000000001] (e13.den))))) ∧ ((∀ e12 : E, ((e12.den = 1) → (((-100000000000) : Int) = (selL [100000000000, (-100000000000), 100000000001] (e12.den))))) ∧ (∀ e11 : E, ((e11.den = 2) → ((100000000001 : Int) = (selL [100000000000, (-100000000000), 100000000001] (e11.den))))))) ∧ ((n ≤ n) ∧ (∀ e10 : E, ((0 ≤ e10.den ∧ e10.den < n) → (((C (e10.den))) = ((C (e10.den))))))))) ∧ (((((selL [100000000000, (-100000000000), 100000000001] (pk C n ((p + 1 + 1) + 1) 3))) = (qN C n p)) ∧ ((1 : Int) = (qD C n p))) ∧ (((n = n) ∧ (((((p + 1 + 1) + 1) + 1) = (qP C n p)) ∧ ((0 ≤ (((p + 1 + 1) + 1) + 1) ∧ (((p + 1 + 1) + 1) + 1) ≤ 9999991) → (0 ≤ (qP C n p) ∧ (qP C n p) ≤ 9999810)))) ∧ ((n ≤ n) ∧ (∀ e14 : E, ((0 ≤ e14.den ∧ e14.den < n) → (((C (e14.den))) = ((C (e14.den))))))))))) ∧ (((pk C n (p + 1 + 1) 16) ≠ 2) → ((((rrN C n p) = (qN C n p)) ∧ ((rrD C n p) = (qD C n p))) ∧ (((n = n) ∧ ((((p + 1 + 1) + 1) = (qP C n p)) ∧ ((0 ≤ ((p + 1 + 1) + 1) ∧ ((p + 1 + 1) + 1) ≤ 10000001) → (0 ≤ (qP C n p) ∧ (qP C n p) ≤ 9999810)))) ∧ ((n ≤ n) ∧ (∀ e15 : E, ((0 ≤ e15.den ∧ e15.den < n) → (((C (e15.den))) = ((C (e15.den)))))))))))))))))) (by kernel_rfl) ?_
  intro h1 h2
  refine ⟨⟨⟨rfl, rfl⟩, ⟨Int.le_refl _, fun _ => fun _ => rfl⟩⟩, ⟨⟨rfl, rfl⟩, ⟨Int.le_refl _, fun _ => fun _ => rfl⟩⟩, ?_, ?_⟩
  · intro c17
    refine ⟨?_, ?_, ?_, Int.le_refl _, fun _ => fun _ => rfl⟩
    · refine ⟨?_, ?_, Int.le_refl _, fun _ => fun _ => rfl⟩
      · refine ⟨rfl, rfl, ?_⟩
        intro c18
        -- 1: 0 ≤ ((p + 1 + 1) + 1) ∧ ((p + 1 + 1) + 1) ≤ 9999990
        first | rfl | omega | (simp_all [selL]; done) | (simp_all [qN, qD, qP, qS]; done) | (simp_all [qN, qD, qP, qS]; omega)
      · refine ⟨?_, ?_, ?_, ?_⟩
        · intro e7
          intro c19
          -- 2: (0 : Int) = (selL [0, (-1), 20000001, 20000000] (e7.den))
          first | rfl | omega | (simp_all [selL]; done) | (simp_all [qN, qD, qP, qS]; done) | (simp_all [qN, qD, qP, qS]; omega)
        · intro e6
          intro c20
          -- 3: ((-1) : Int) = (selL [0, (-1), 20000001, 20000000] (e6.den))
          first | rfl | omega | (simp_all [selL]; done) | (simp_all [qN, qD, qP, qS]; done) | (simp_all [qN, qD, qP, qS]; omega)
        · intro e5
          intro c21
          -- 4: (20000001 : Int) = (selL [0, (-1), 20000001, 20000000] (e5.den))
          first | rfl | omega | (simp_all [selL]; done) | (simp_all [qN, qD, qP, qS]; done) | (simp_all [qN, qD, qP, qS]; omega)
        · intro e4
          intro c22
          -- 5: (20000000 : Int) = (selL [0, (-1), 20000001, 20000000] (e4.den))
          first | rfl | omega | (simp_all [selL]; done) | (simp_all [qN, qD, qP, qS]; done) | (simp_all [qN, qD, qP, qS]; omega)
    · refine ⟨?_, ?_⟩
        -- 6: (rrN C n p) = (qN C n p)
      · first | rfl | omega | (simp_all [selL]; done) | (simp_all [qN, qD, qP, qS]; done) | (simp_all [qN, qD, qP, qS]; omega)
        -- 7: ((selL [0, (-1), 20000001, 20000000] (pk C n ((p + 1 + 1) + 1) 4))) = (qD C n p)
      · first | rfl | omega | (simp_all [selL]; done) | (simp_all [qN, qD, qP, qS]; done) | (simp_all [qN, qD, qP, qS]; omega)
    · refine ⟨rfl, ?_, ?_⟩
        -- 8: (((p + 1 + 1) + 1) + 1) = (qP C n p)
      · first | rfl | omega | (simp_all [selL]; done) | (simp_all [qN, qD, qP, qS]; done) | (simp_all [qN, qD, qP, qS]; omega)
      · intro c23
        -- 9: 0 ≤ (qP C n p) ∧ (qP C n p) ≤ 9999810
        first | rfl | omega | (simp_all [selL]; done) | (simp_all [qN, qD, qP, qS]; done) | (simp_all [qN, qD, qP, qS]; omega)
  · intro c24
    refine ⟨?_, ?_⟩
    · intro c25
      refine ⟨?_, ?_, Int.le_refl _, fun _ => fun _ => rfl⟩
      · refine ⟨?_, ?_⟩
          -- 10: (2 : Int) = (qN C n p)
        · first | rfl | omega | (simp_all [selL]; done) | (simp_all [qN, qD, qP, qS]; done) | (simp_all [qN, qD, qP, qS]; omega)
          -- 11: (4 : Int) = (qD C n p)
        · first | rfl | omega | (simp_all [selL]; done) | (simp_all [qN, qD, qP, qS]; done) | (simp_all [qN, qD, qP, qS]; omega)
      · refine ⟨rfl, ?_, ?_⟩
          -- 12: ((p + 1 + 1) + 1) = (qP C n p)
        · first | rfl | omega | (simp_all [selL]; done) | (simp_all [qN, qD, qP, qS]; done) | (simp_all [qN, qD, qP, qS]; omega)
        · intro c26
          -- 13: 0 ≤ (qP C n p) ∧ (qP C n p) ≤ 9999810
          first | rfl | omega | (simp_all [selL]; done) | (simp_all [qN, qD, qP, qS]; done) | (simp_all [qN, qD, qP, qS]; omega)
    · intro c27
      refine ⟨?_, ?_⟩
      · intro c28
        refine ⟨?_, ?_, ?_, Int.le_refl _, fun _ => fun _ => rfl⟩
        · refine ⟨?_, ?_, Int.le_refl _, fun _ => fun _ => rfl⟩
          · refine ⟨rfl, rfl, ?_⟩
            intro c29
            -- 14: 0 ≤ ((p + 1 + 1) + 1) ∧ ((p + 1 + 1) + 1) ≤ 9999990
            first | rfl | omega | (simp_all [selL]; done) | (simp_all [qN, qD, qP, qS]; done) | (simp_all [qN, qD, qP, qS]; omega)
          · refine ⟨?_, ?_, ?_⟩
            · intro e13
              intro c30
              -- 15: (100000000000 : Int) = (selL [100000000000, (-100000000000), 100000000001] (e13.den))
              first | rfl | omega | (simp_all [selL]; done) | (simp_all [qN, qD, qP, qS]; done) | (simp_all [qN, qD, qP, qS]; omega)
            · intro e12
              intro c31
              -- 16: ((-100000000000) : Int) = (selL [100000000000, (-100000000000), 100000000001] (e12.den))
              first | rfl | omega | (simp_all [selL]; done) | (simp_all [qN, qD, qP, qS]; done) | (simp_all [qN, qD, qP, qS]; omega)
            · intro e11
              intro c32
              -- 17: (100000000001 : Int) = (selL [100000000000, (-100000000000), 100000000001] (e11.den))
              first | rfl | omega | (simp_all [selL]; done) | (simp_all [qN, qD, qP, qS]; done) | (simp_all [qN, qD, qP, qS]; omega)
        · refine ⟨?_, ?_⟩
            -- 18: ((selL [100000000000, (-100000000000), 100000000001] (pk C n ((p + 1 + 1) + 1) 3))) = (qN C n p)
          · first | rfl | omega | (simp_all [selL]; done) | (simp_all [qN, qD, qP, qS]; done) | (simp_all [qN, qD, qP, qS]; omega)
            -- 19: (1 : Int) = (qD C n p)
          · first | rfl | omega | (simp_all [selL]; done) | (simp_all [qN, qD, qP, qS]; done) | (simp_all [qN, qD, qP, qS]; omega)
        · refine ⟨rfl, ?_, ?_⟩
            -- 20: (((p + 1 + 1) + 1) + 1) = (qP C n p)
          · first | rfl | omega | (simp_all [selL]; done) | (simp_all [qN, qD, qP, qS]; done) | (simp_all [qN, qD, qP, qS]; omega)
          · intro c33
            -- 21: 0 ≤ (qP C n p) ∧ (qP C n p) ≤ 9999810
            first | rfl | omega | (simp_all [selL]; done) | (simp_all [qN, qD, qP, qS]; done) | (simp_all [qN, qD, qP, qS]; omega)
      · intro c34
        refine ⟨?_, ?_, Int.le_refl _, fun _ => fun _ => rfl⟩
        · refine ⟨?_, ?_⟩
            -- 22: (rrN C n p) = (qN C n p)
          · first | rfl | omega | (simp_all [selL]; done) | (simp_all [qN, qD, qP, qS]; done) | (simp_all [qN, qD, qP, qS]; omega)
            -- 23: (rrD C n p) = (qD C n p)
          · first | rfl | omega | (simp_all [selL]; done) | (simp_all [qN, qD, qP, qS]; done) | (simp_all [qN, qD, qP, qS]; omega)
        · refine ⟨rfl, ?_, ?_⟩
            -- 24: ((p + 1 + 1) + 1) = (qP C n p)
          · first | rfl | omega | (simp_all [selL]; done) | (simp_all [qN, qD, qP, qS]; done) | (simp_all [qN, qD, qP, qS]; omega)
          · intro c35
            -- 25: 0 ≤ (qP C n p) ∧ (qP C n p) ≤ 9999810
            first | rfl | omega | (simp_all [selL]; done) | (simp_all [qN, qD, qP, qS]; done) | (simp_all [qN, qD, qP, qS]; omega)
def c_anyRat (C : Int → Int) (n : Int) (p : Int) : Cn Try.prog := ⟨_, _, _, _, _, anyRat C n p⟩
def f1N (C : Int → Int) (n : Int) : Int := qN C (cut n) 0
def f1D (C : Int → Int) (n : Int) : Int := qD C (cut n) 0
def f2N (C : Int → Int) (n : Int) : Int := qN C (cut n) (qP C (cut n) 0)
def f2D (C : Int → Int) (n : Int) : Int := qD C (cut n) (qP C (cut n) 0)
theorem s_twoRats (C : Int → Int) (n : Int) : RunsTo Try.prog 68 [(.sl 0 1 (.lit 0) (.v fun _ => n) 9223372036854775807)] [some ⟨5, 1, false, (.sym (.v fun _ => n) fun e => [(.int .u8 (.v fun _ => (C (e.den))) 0 255)])⟩] (.tup [(.agg [(.int .i64 (.v fun _ => f1N C n) (-200000000000) 200000000000), (.int .i64 (.v fun _ => f1D C n) (-200000000000) 200000000000)]), (.agg [(.int .i64 (.v fun _ => f2N C n) (-200000000000) 200000000000), (.int .i64 (.v fun _ => f2D C n) (-200000000000) 200000000000)])]) [some ⟨5, 1, false, (.sym (.v fun _ => cut n) fun e => [(.int .u8 (.v fun _ => (C (e.den))) 0 255)])⟩] := by
  refine RunsTo.go env Try.func68 rfl Try.call68 rfl rfl (fun _ _ => (.call (c_s_newReader C n) (.call (c_anyRat C (cut n) 0) (.call (c_anyRat C (cut n) (qP C (cut n) 0)) .ret)))) (G := (0 ≤ n ∧ n ≤ 9223372036854775807) → (∀ e5 : E, ((0 ≤ e5.den ∧ e5.den < n) → (0 ≤ ((C (e5.den))) ∧ ((C (e5.den))) ≤ 255))) → ((n = n) ∧ (((n ≤ n) ∧ (∀ e1 : E, ((0 ≤ e1.den ∧ e1.den < n) → (((C (e1.den))) = ((C (e1.den))))))) ∧ (((((cut n) = (cut n)) ∧ ((0 : Int) = 0)) ∧ (((cut n) ≤ (cut n)) ∧ (∀ e2 : E, ((0 ≤ e2.den ∧ e2.den < (cut n)) → (((C (e2.den))) = ((C (e2.den)))))))) ∧ (((((cut n) = (cut n)) ∧ (((qP C (cut n) 0) = (qP C (cut n) 0)) ∧ ((0 ≤ (qP C (cut n) 0) ∧ (qP C (cut n) 0) ≤ 9999810) → (0 ≤ (qP C (cut n) 0) ∧ (qP C (cut n) 0) ≤ 9999800)))) ∧ (((cut n) ≤ (cut n)) ∧ (∀ e3 : E, ((0 ≤ e3.den ∧ e3.den < (cut n)) → (((C (e3.den))) = ((C (e3.den)))))))) ∧ (((((qN C (cut n) 0) = (f1N C n)) ∧ ((qD C (cut n) 0) = (f1D C n))) ∧ (((qN C (cut n) (qP C (cut n) 0)) = (f2N C n)) ∧ ((qD C (cut n) (qP C (cut n) 0)) = (f2D C n)))) ∧ (((cut n) ≤ (cut n)) ∧ (∀ e4 : E, ((0 ≤ e4.den ∧ e4.den < (cut n)) → (((C (e4.den))) = ((C (e4.den))))))))))))) (by kernel_rfl) ?_
  intro h1 h2
  have a1 := qP_bd C (cut n) 0
  refine ⟨rfl, ⟨Int.le_refl _, fun _ => fun _ => rfl⟩, ⟨⟨rfl, rfl⟩, ⟨Int.le_refl _, fun _ => fun _ => rfl⟩⟩, ?_, ?_, Int.le_refl _, fun _ => fun _ => rfl⟩
  · refine ⟨?_, Int.le_refl _, fun _ => fun _ => rfl⟩
    refine ⟨rfl, rfl, ?_⟩
    intro c6
    -- 1: 0 ≤ (qP C (cut n) 0) ∧ (qP C (cut n) 0) ≤ 9999800
    first | rfl | omega
  · refine ⟨?_, ?_, ?_⟩
    · refine ⟨?_, ?_⟩
        -- 2: (qN C (cut n) 0) = (f1N C n)
      · first | rfl | omega
        -- 3: (qD C (cut n) 0) = (f1D C n)
      · first | rfl | omega
      -- 4: (qN C (cut n) (qP C (cut n) 0)) = (f2N C n)
    · first | rfl | omega
      -- 5: (qD C (cut n) (qP C (cut n) 0)) = (f2D C n)
    · first | rfl | omega
def c_s_twoRats (C : Int → Int) (n : Int) : Cn Try.prog := ⟨_, _, _, _, _, s_twoRats C n⟩
theorem s_DrawMulRats (C : Int → Int) (n : Int) : RunsTo Try.prog 15 [(.sl 0 1 (.lit 0) (.v fun _ => n) 9223372036854775807)] [some ⟨5, 1, false, (.sym (.v fun _ => n) fun e => [(.int .u8 (.v fun _ => (C (e.den))) 0 255)])⟩] (.tup [(.agg [(.int .i64 (.v fun _ => f1N C n) (-200000000000) 200000000000), (.int .i64 (.v fun _ => f1D C n) (-200000000000) 200000000000)]), (.agg [(.int .i64 (.v fun _ => f2N C n) (-200000000000) 200000000000), (.int .i64 (.v fun _ => f2D C n) (-200000000000) 200000000000)])]) [some ⟨5, 1, false, (.sym (.v fun _ => cut n) fun e => [(.int .u8 (.v fun _ => (C (e.den))) 0 255)])⟩] := by
  refine RunsTo.go env Try.func15 rfl Try.call15 rfl rfl (fun _ _ => (.call (c_s_twoRats C n) .ret)) (G := (0 ≤ n ∧ n ≤ 9223372036854775807) → (∀ e3 : E, ((0 ≤ e3.den ∧ e3.den < n) → (0 ≤ ((C (e3.den))) ∧ ((C (e3.den))) ≤ 255))) → ((n = n) ∧ (((n ≤ n) ∧ (∀ e1 : E, ((0 ≤ e1.den ∧ e1.den < n) → (((C (e1.den))) = ((C (e1.den))))))) ∧ (((((f1N C n) = (f1N C n)) ∧ ((f1D C n) = (f1D C n))) ∧ (((f2N C n) = (f2N C n)) ∧ ((f2D C n) = (f2D C n)))) ∧ (((cut n) ≤ (cut n)) ∧ (∀ e2 : E, ((0 ≤ e2.den ∧ e2.den < (cut n)) → (((C (e2.den))) = ((C (e2.den))))))))))) (by kernel_rfl) ?_
  intro h1 h2
  exact ⟨rfl, ⟨⟨Int.le_refl _, fun _ => fun _ => rfl⟩, ⟨⟨⟨rfl, rfl⟩, ⟨rfl, rfl⟩⟩, ⟨Int.le_refl _, fun _ => fun _ => rfl⟩⟩⟩⟩
def c_s_DrawMulRats (C : Int → Int) (n : Int) : Cn Try.prog := ⟨_, _, _, _, _, s_DrawMulRats C n⟩
theorem s_DrawAddRats (C : Int → Int) (n : Int) : RunsTo Try.prog 18 [(.sl 0 1 (.lit 0) (.v fun _ => n) 9223372036854775807)] [some ⟨5, 1, false, (.sym (.v fun _ => n) fun e => [(.int .u8 (.v fun _ => (C (e.den))) 0 255)])⟩] (.tup [(.agg [(.int .i64 (.v fun _ => f1N C n) (-200000000000) 200000000000), (.int .i64 (.v fun _ => f1D C n) (-200000000000) 200000000000)]), (.agg [(.int .i64 (.v fun _ => f2N C n) (-200000000000) 200000000000), (.int .i64 (.v fun _ => f2D C n) (-200000000000) 200000000000)])]) [some ⟨5, 1, false, (.sym (.v fun _ => cut n) fun e => [(.int .u8 (.v fun _ => (C (e.den))) 0 255)])⟩] := by
  refine RunsTo.go env Try.func18 rfl Try.call18 rfl rfl (fun _ _ => (.call (c_s_twoRats C n) .ret)) (G := (0 ≤ n ∧ n ≤ 9223372036854775807) → (∀ e3 : E, ((0 ≤ e3.den ∧ e3.den < n) → (0 ≤ ((C (e3.den))) ∧ ((C (e3.den))) ≤ 255))) → ((n = n) ∧ (((n ≤ n) ∧ (∀ e1 : E, ((0 ≤ e1.den ∧ e1.den < n) → (((C (e1.den))) = ((C (e1.den))))))) ∧ (((((f1N C n) = (f1N C n)) ∧ ((f1D C n) = (f1D C n))) ∧ (((f2N C n) = (f2N C n)) ∧ ((f2D C n) = (f2D C n)))) ∧ (((cut n) ≤ (cut n)) ∧ (∀ e2 : E, ((0 ≤ e2.den ∧ e2.den < (cut n)) → (((C (e2.den))) = ((C (e2.den))))))))))) (by kernel_rfl) ?_
  intro h1 h2
  exact ⟨rfl, ⟨⟨Int.le_refl _, fun _ => fun _ => rfl⟩, ⟨⟨⟨rfl, rfl⟩, ⟨rfl, rfl⟩⟩, ⟨Int.le_refl _, fun _ => fun _ => rfl⟩⟩⟩⟩
def c_s_DrawAddRats (C : Int → Int) (n : Int) : Cn Try.prog := ⟨_, _, _, _, _, s_DrawAddRats C n⟩
theorem l_size (a : Int) : RunsTo Try.prog 20 [(.int .i64 (.v fun _ => a) (-4000000000000000000) 4000000000000000000)] [] (.int .i64 (.v fun _ => absI a) 0 4000000000000000000) [] := by
  refine RunsTo.go env Try.func20 rfl Try.call20 rfl rfl (fun _ _ => .ret) (G := ((-4000000000000000000) ≤ a ∧ a ≤ 4000000000000000000) → (True) → (((if (0 - a) > a then (0 - a) else a) = (absI a)) ∧ (((-4000000000000000000) ≤ (if (0 - a) > a then (0 - a) else a) ∧ (if (0 - a) > a then (0 - a) else a) ≤ 4000000000000000000) → (0 ≤ (absI a) ∧ (absI a) ≤ 4000000000000000000)))) (by kernel_rfl) ?_
  intro h1 h2
  refine ⟨?_, ?_⟩
    -- 1: (if (0 - a) > a then (0 - a) else a) = (absI a)
  · first | rfl | omega | (unfold absI; omega) | (unfold absI; split <;> omega)
  · intro c1
    -- 2: 0 ≤ (absI a) ∧ (absI a) ≤ 4000000000000000000
    first | rfl | omega | (unfold absI; omega) | (unfold absI; split <;> omega)
def c_l_size (a : Int) : Cn Try.prog := ⟨_, _, _, _, _, l_size a⟩
end Go.Proofs.Ytndkhbilefljnaa
