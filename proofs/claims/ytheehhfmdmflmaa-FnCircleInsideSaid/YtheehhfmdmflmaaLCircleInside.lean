/- FnCircleInside: the walk. -/
import Derived.Test.YtheehhfmdmflmaaK17
set_option linter.unusedSimpArgs false
set_option linter.unusedVariables false
set_option maxRecDepth 100000
namespace Go.Proofs.Ytheehhfmdmflmaa
open Go.Sym
def q3 (C : Int → Int) (n : Int) : Int := apP C (cut n) (q2 C n)
def icX (C : Int → Int) (n : Int) : Int := if pk C (cut n) (q3 C n) 4 = 0 then apX C (cut n) 0 + apX C (cut n) (q2 C n) - apX C (cut n) (q1 C n) else apX C (cut n) (q3 C n + 1)
def icY (C : Int → Int) (n : Int) : Int := if pk C (cut n) (q3 C n) 4 = 0 then apY C (cut n) 0 + apY C (cut n) (q2 C n) - apY C (cut n) (q1 C n) else apY C (cut n) (q3 C n + 1)
theorem s_DrawInCircle (C : Int → Int) (n : Int) : RunsTo Try.prog 20 [(.sl 0 1 (.lit 0) (.v fun _ => n) 9223372036854775807)] [some ⟨5, 1, false, (.sym (.v fun _ => n) fun e => [(.int .u8 (.v fun _ => (C (e.den))) 0 255)])⟩] (.tup [(.agg [(.int .i64 (.v fun _ => apX C (cut n) 0) (-1001) 1001), (.int .i64 (.v fun _ => apY C (cut n) 0) (-1001) 1001)]), (.agg [(.int .i64 (.v fun _ => apX C (cut n) (q1 C n)) (-1001) 1001), (.int .i64 (.v fun _ => apY C (cut n) (q1 C n)) (-1001) 1001)]), (.agg [(.int .i64 (.v fun _ => apX C (cut n) (q2 C n)) (-1001) 1001), (.int .i64 (.v fun _ => apY C (cut n) (q2 C n)) (-1001) 1001)]), (.agg [(.int .i64 (.v fun _ => icX C n) (-3003) 3003), (.int .i64 (.v fun _ => icY C n) (-3003) 3003)])]) [some ⟨5, 1, false, (.sym (.v fun _ => cut n) fun e => [(.int .u8 (.v fun _ => (C (e.den))) 0 255)])⟩] := by
  refine RunsTo.go env Try.func20 rfl Try.call20 rfl rfl (fun _ _ => (.call (c_s_newReader C n) (.call (c_anyPoint C (cut n) 0) (.call (c_anyPoint C (cut n) (apP C (cut n) 0)) (.call (c_anyPoint C (cut n) (apP C (cut n) (apP C (cut n) 0))) (.call (c_pick_4 C (cut n) (apP C (cut n) (apP C (cut n) (apP C (cut n) 0)))) (.ite .ret (.call (c_anyPoint C (cut n) ((apP C (cut n) (apP C (cut n) (apP C (cut n) 0))) + 1)) .ret)))))))) (G := (0 ≤ n ∧ n ≤ 9223372036854775807) → (∀ e9 : E, ((0 ≤ e9.den ∧ e9.den < n) → (0 ≤ ((C (e9.den))) ∧ ((C (e9.den))) ≤ 255))) → ((n = n) ∧ (((n ≤ n) ∧ (∀ e1 : E, ((0 ≤ e1.den ∧ e1.den < n) → (((C (e1.den))) = ((C (e1.den))))))) ∧ (((((cut n) = (cut n)) ∧ ((0 : Int) = 0)) ∧ (((cut n) ≤ (cut n)) ∧ (∀ e2 : E, ((0 ≤ e2.den ∧ e2.den < (cut n)) → (((C (e2.den))) = ((C (e2.den)))))))) ∧ (((((cut n) = (cut n)) ∧ (((apP C (cut n) 0) = (apP C (cut n) 0)) ∧ ((0 ≤ (apP C (cut n) 0) ∧ (apP C (cut n) 0) ≤ 9999904) → (0 ≤ (apP C (cut n) 0) ∧ (apP C (cut n) 0) ≤ 9999900)))) ∧ (((cut n) ≤ (cut n)) ∧ (∀ e3 : E, ((0 ≤ e3.den ∧ e3.den < (cut n)) → (((C (e3.den))) = ((C (e3.den)))))))) ∧ (((((cut n) = (cut n)) ∧ (((apP C (cut n) (apP C (cut n) 0)) = (apP C (cut n) (apP C (cut n) 0))) ∧ ((0 ≤ (apP C (cut n) (apP C (cut n) 0)) ∧ (apP C (cut n) (apP C (cut n) 0)) ≤ 9999904) → (0 ≤ (apP C (cut n) (apP C (cut n) 0)) ∧ (apP C (cut n) (apP C (cut n) 0)) ≤ 9999900)))) ∧ (((cut n) ≤ (cut n)) ∧ (∀ e4 : E, ((0 ≤ e4.den ∧ e4.den < (cut n)) → (((C (e4.den))) = ((C (e4.den)))))))) ∧ (((((cut n) = (cut n)) ∧ ((apP C (cut n) (apP C (cut n) (apP C (cut n) 0))) = ((apP C (cut n) (apP C (cut n) (apP C (cut n) 0)))))) ∧ (((cut n) ≤ (cut n)) ∧ (∀ e5 : E, ((0 ≤ e5.den ∧ e5.den < (cut n)) → (((C (e5.den))) = ((C (e5.den)))))))) ∧ ((((pk C (cut n) (apP C (cut n) (apP C (cut n) (apP C (cut n) 0))) 4) = 0) → (((((apX C (cut n) 0) = (apX C (cut n) 0)) ∧ ((apY C (cut n) 0) = (apY C (cut n) 0))) ∧ ((((apX C (cut n) (apP C (cut n) 0)) = (apX C (cut n) (q1 C n))) ∧ ((apY C (cut n) (apP C (cut n) 0)) = (apY C (cut n) (q1 C n)))) ∧ ((((apX C (cut n) (apP C (cut n) (apP C (cut n) 0))) = (apX C (cut n) (q2 C n))) ∧ ((apY C (cut n) (apP C (cut n) (apP C (cut n) 0))) = (apY C (cut n) (q2 C n)))) ∧ (((((apX C (cut n) 0) + (apX C (cut n) (apP C (cut n) (apP C (cut n) 0)))) - (apX C (cut n) (apP C (cut n) 0))) = (icX C n)) ∧ ((((apY C (cut n) 0) + (apY C (cut n) (apP C (cut n) (apP C (cut n) 0)))) - (apY C (cut n) (apP C (cut n) 0))) = (icY C n)))))) ∧ (((cut n) ≤ (cut n)) ∧ (∀ e6 : E, ((0 ≤ e6.den ∧ e6.den < (cut n)) → (((C (e6.den))) = ((C (e6.den))))))))) ∧ (((pk C (cut n) (apP C (cut n) (apP C (cut n) (apP C (cut n) 0))) 4) ≠ 0) → (((((cut n) = (cut n)) ∧ ((((apP C (cut n) (apP C (cut n) (apP C (cut n) 0))) + 1) = (((apP C (cut n) (apP C (cut n) (apP C (cut n) 0))) + 1))) ∧ ((0 ≤ ((apP C (cut n) (apP C (cut n) (apP C (cut n) 0))) + 1) ∧ ((apP C (cut n) (apP C (cut n) (apP C (cut n) 0))) + 1) ≤ 10000001) → (0 ≤ (((apP C (cut n) (apP C (cut n) (apP C (cut n) 0))) + 1)) ∧ (((apP C (cut n) (apP C (cut n) (apP C (cut n) 0))) + 1)) ≤ 9999900)))) ∧ (((cut n) ≤ (cut n)) ∧ (∀ e7 : E, ((0 ≤ e7.den ∧ e7.den < (cut n)) → (((C (e7.den))) = ((C (e7.den)))))))) ∧ (((((apX C (cut n) 0) = (apX C (cut n) 0)) ∧ ((apY C (cut n) 0) = (apY C (cut n) 0))) ∧ ((((apX C (cut n) (apP C (cut n) 0)) = (apX C (cut n) (q1 C n))) ∧ ((apY C (cut n) (apP C (cut n) 0)) = (apY C (cut n) (q1 C n)))) ∧ ((((apX C (cut n) (apP C (cut n) (apP C (cut n) 0))) = (apX C (cut n) (q2 C n))) ∧ ((apY C (cut n) (apP C (cut n) (apP C (cut n) 0))) = (apY C (cut n) (q2 C n)))) ∧ (((apX C (cut n) ((apP C (cut n) (apP C (cut n) (apP C (cut n) 0))) + 1)) = (icX C n)) ∧ ((apY C (cut n) ((apP C (cut n) (apP C (cut n) (apP C (cut n) 0))) + 1)) = (icY C n)))))) ∧ (((cut n) ≤ (cut n)) ∧ (∀ e8 : E, ((0 ≤ e8.den ∧ e8.den < (cut n)) → (((C (e8.den))) = ((C (e8.den)))))))))))))))))) (by kernel_rfl) ?_
  intro h1 h2
  have a1 := apP_bd C (cut n) 0
  have a2 := apP_bd C (cut n) (apP C (cut n) 0)
  have a3 := apP_bd C (cut n) (apP C (cut n) (apP C (cut n) 0))
  refine ⟨rfl, ⟨Int.le_refl _, fun _ => fun _ => rfl⟩, ⟨⟨rfl, rfl⟩, ⟨Int.le_refl _, fun _ => fun _ => rfl⟩⟩, ?_, ?_, ⟨⟨rfl, rfl⟩, ⟨Int.le_refl _, fun _ => fun _ => rfl⟩⟩, ?_, ?_⟩
  · refine ⟨?_, Int.le_refl _, fun _ => fun _ => rfl⟩
    refine ⟨rfl, rfl, ?_⟩
    intro c10
    -- 1: 0 ≤ (apP C (cut n) 0) ∧ (apP C (cut n) 0) ≤ 9999900
    first | rfl | omega | (simp_all [icX, icY, q1, q2, q3]; done) | (simp_all [icX, icY, q1, q2, q3]; omega)
  · refine ⟨?_, Int.le_refl _, fun _ => fun _ => rfl⟩
    refine ⟨rfl, rfl, ?_⟩
    intro c11
    -- 2: 0 ≤ (apP C (cut n) (apP C (cut n) 0)) ∧ (apP C (cut n) (apP C (cut n) 0)) ≤ 9999900
    first | rfl | omega | (simp_all [icX, icY, q1, q2, q3]; done) | (simp_all [icX, icY, q1, q2, q3]; omega)
  · intro c12
    refine ⟨?_, Int.le_refl _, fun _ => fun _ => rfl⟩
    refine ⟨⟨rfl, rfl⟩, ?_, ?_, ?_, ?_⟩
    · refine ⟨?_, ?_⟩
        -- 3: (apX C (cut n) (apP C (cut n) 0)) = (apX C (cut n) (q1 C n))
      · first | rfl | omega | (simp_all [icX, icY, q1, q2, q3]; done) | (simp_all [icX, icY, q1, q2, q3]; omega)
        -- 4: (apY C (cut n) (apP C (cut n) 0)) = (apY C (cut n) (q1 C n))
      · first | rfl | omega | (simp_all [icX, icY, q1, q2, q3]; done) | (simp_all [icX, icY, q1, q2, q3]; omega)
    · refine ⟨?_, ?_⟩
        -- 5: (apX C (cut n) (apP C (cut n) (apP C (cut n) 0))) = (apX C (cut n) (q2 C n))
      · first | rfl | omega | (simp_all [icX, icY, q1, q2, q3]; done) | (simp_all [icX, icY, q1, q2, q3]; omega)
        -- 6: (apY C (cut n) (apP C (cut n) (apP C (cut n) 0))) = (apY C (cut n) (q2 C n))
      · first | rfl | omega | (simp_all [icX, icY, q1, q2, q3]; done) | (simp_all [icX, icY, q1, q2, q3]; omega)
      -- 7: (((apX C (cut n) 0) + (apX C (cut n) (apP C (cut n) (apP C (cut n) 0)))) - (apX C (cut n) (apP C (cu
    · first | rfl | omega | (simp_all [icX, icY, q1, q2, q3]; done) | (simp_all [icX, icY, q1, q2, q3]; omega)
      -- 8: (((apY C (cut n) 0) + (apY C (cut n) (apP C (cut n) (apP C (cut n) 0)))) - (apY C (cut n) (apP C (cu
    · first | rfl | omega | (simp_all [icX, icY, q1, q2, q3]; done) | (simp_all [icX, icY, q1, q2, q3]; omega)
  · intro c13
    refine ⟨?_, ?_, Int.le_refl _, fun _ => fun _ => rfl⟩
    · refine ⟨?_, Int.le_refl _, fun _ => fun _ => rfl⟩
      refine ⟨rfl, rfl, ?_⟩
      intro c14
      -- 9: 0 ≤ (((apP C (cut n) (apP C (cut n) (apP C (cut n) 0))) + 1)) ∧ (((apP C (cut n) (apP C (cut n) (apP
      first | rfl | omega | (simp_all [icX, icY, q1, q2, q3]; done) | (simp_all [icX, icY, q1, q2, q3]; omega)
    · refine ⟨⟨rfl, rfl⟩, ?_, ?_, ?_, ?_⟩
      · refine ⟨?_, ?_⟩
          -- 10: (apX C (cut n) (apP C (cut n) 0)) = (apX C (cut n) (q1 C n))
        · first | rfl | omega | (simp_all [icX, icY, q1, q2, q3]; done) | (simp_all [icX, icY, q1, q2, q3]; omega)
          -- 11: (apY C (cut n) (apP C (cut n) 0)) = (apY C (cut n) (q1 C n))
        · first | rfl | omega | (simp_all [icX, icY, q1, q2, q3]; done) | (simp_all [icX, icY, q1, q2, q3]; omega)
      · refine ⟨?_, ?_⟩
          -- 12: (apX C (cut n) (apP C (cut n) (apP C (cut n) 0))) = (apX C (cut n) (q2 C n))
        · first | rfl | omega | (simp_all [icX, icY, q1, q2, q3]; done) | (simp_all [icX, icY, q1, q2, q3]; omega)
          -- 13: (apY C (cut n) (apP C (cut n) (apP C (cut n) 0))) = (apY C (cut n) (q2 C n))
        · first | rfl | omega | (simp_all [icX, icY, q1, q2, q3]; done) | (simp_all [icX, icY, q1, q2, q3]; omega)
        -- 14: (apX C (cut n) ((apP C (cut n) (apP C (cut n) (apP C (cut n) 0))) + 1)) = (icX C n)
      · first | rfl | omega | (simp_all [icX, icY, q1, q2, q3]; done) | (simp_all [icX, icY, q1, q2, q3]; omega)
        -- 15: (apY C (cut n) ((apP C (cut n) (apP C (cut n) (apP C (cut n) 0))) + 1)) = (icY C n)
      · first | rfl | omega | (simp_all [icX, icY, q1, q2, q3]; done) | (simp_all [icX, icY, q1, q2, q3]; omega)
def c_s_DrawInCircle (C : Int → Int) (n : Int) : Cn Try.prog := ⟨_, _, _, _, _, s_DrawInCircle C n⟩
theorem circ_bary (aX aY bX bY cX cY dX dY : Int) : circ aX aY bX bY cX cY dX dY =
    ((aX - dX) * (aX - dX) + (aY - dY) * (aY - dY)) * trn bX bY cX cY dX dY + ((bX - dX) * (bX - dX) + (bY - dY) * (bY - dY)) * trn cX cY aX aY dX dY + ((cX - dX) * (cX - dX) + (cY - dY) * (cY - dY)) * trn aX aY bX bY dX dY := by
  unfold circ trn; grind
theorem sq_nn (x y : Int) : 0 ≤ x * x + y * y := by
  have hsq : ∀ z : Int, 0 ≤ z * z := by
    intro z
    rcases Int.le_total 0 z with h | h
    · exact Int.mul_nonneg h h
    · have := Int.mul_nonneg (show 0 ≤ -z by omega) (show 0 ≤ -z by omega); rwa [Int.neg_mul_neg] at this
  have := hsq x
  have := hsq y
  omega
theorem inside {aX aY bX bY cX cY dX dY : Int} (h : inTri aX aY bX bY cX cY dX dY = true) (h2 : inc aX aY bX bY cX cY dX dY ≠ 2) : 0 ≤ inc aX aY bX bY cX cY dX dY := by
  have hs := s_inc aX aY bX bY cX cY dX dY
  simp only [inTri, Bool.and_eq_true] at h
  obtain ⟨⟨⟨⟨ha, hb⟩, hc⟩, hd⟩, ht⟩ := h
  have ho := ornt_ok ha hb hc
  rw [ho] at hs
  have hz := sgn_zero' (trn aX aY bX bY cX cY)
  have hbd := sgn_bd' (trn aX aY bX bY cX cY)
  by_cases h0 : trn aX aY bX bY cX cY = 0
  · exact absurd (hs.1 (Or.inl (hz.2 h0))) h2
  · rw [(hs.2 (fun h => h0 (hz.1 h)) (by omega) hd).1]
    simp only [inT, if_neg h0, Bool.and_eq_true, decide_eq_true_eq] at ht
    obtain ⟨⟨t1, t2⟩, t3⟩ := ht
    have n1 := sq_nn (aX - dX) (aY - dY)
    have n2 := sq_nn (bX - dX) (bY - dY)
    have n3 := sq_nn (cX - dX) (cY - dY)
    have m1 := Int.mul_nonneg n1 t2
    have m2 := Int.mul_nonneg n2 t3
    have m3 := Int.mul_nonneg n3 t1
    have e := circ_bary aX aY bX bY cX cY dX dY
    have hp : 0 ≤ sgn (trn aX aY bX bY cX cY) * circ aX aY bX bY cX cY dX dY := by
      rw [e]
      generalize sgn (trn aX aY bX bY cX cY) = s at *
      grind
    have hv : sgn (trn aX aY bX bY cX cY) = 1 ∨ sgn (trn aX aY bX bY cX cY) = -1 := by
      have : sgn (trn aX aY bX bY cX cY) ≠ 0 := fun h => h0 (hz.1 h)
      omega
    generalize circ aX aY bX bY cX cY dX dY = z at *
    rcases hv with hv | hv <;> rw [hv] at hp ⊢ <;> unfold sgn <;> split <;> (try split) <;> omega
theorem l_FnCircleInside (C : Int → Int) (n : Int) : RunsTo Try.prog 4 [(.sl 0 1 (.lit 0) (.v fun _ => n) 9223372036854775807)] [some ⟨5, 1, false, (.sym (.v fun _ => n) fun e => [(.int .u8 (.v fun _ => (C (e.den))) 0 255)])⟩] (.bool (.lit true)) [none] := by
  refine RunsTo.go env Try.func4 rfl Try.call4 rfl rfl (fun _ _ => (.ite .ret (.call (c_s_DrawInCircle C n) (.call (c_i_InCircle (apX C (cut n) 0) (apY C (cut n) 0) (apX C (cut n) (q1 C n)) (apY C (cut n) (q1 C n)) (apX C (cut n) (q2 C n)) (apY C (cut n) (q2 C n)) (icX C n) (icY C n)) (.call (c_s_InCircle (apX C (cut n) 0) (apY C (cut n) 0) (apX C (cut n) (q1 C n)) (apY C (cut n) (q1 C n)) (apX C (cut n) (q2 C n)) (apY C (cut n) (q2 C n)) (icX C n) (icY C n)) (.ite (.call (c_s_InCircle (apX C (cut n) 0) (apY C (cut n) 0) (apX C (cut n) (q1 C n)) (apY C (cut n) (q1 C n)) (apX C (cut n) (q2 C n)) (apY C (cut n) (q2 C n)) (icX C n) (icY C n)) .ret) (.ite (.call (c_s_InCircle (apX C (cut n) 0) (apY C (cut n) 0) (apX C (cut n) (q1 C n)) (apY C (cut n) (q1 C n)) (apX C (cut n) (q2 C n)) (apY C (cut n) (q2 C n)) (icX C n) (icY C n)) .ret) (.call (c_i_InTriangle (apX C (cut n) 0) (apY C (cut n) 0) (apX C (cut n) (q1 C n)) (apY C (cut n) (q1 C n)) (apX C (cut n) (q2 C n)) (apY C (cut n) (q2 C n)) (icX C n) (icY C n)) (.ite .ret .ret))))))))) (G := (0 ≤ n ∧ n ≤ 9223372036854775807) → (∀ e2 : E, ((0 ≤ e2.den ∧ e2.den < n) → (0 ≤ ((C (e2.den))) ∧ ((C (e2.den))) ≤ 255))) → ((n ≤ 1048576) → ((n = n) ∧ (((n ≤ n) ∧ (∀ e1 : E, ((0 ≤ e1.den ∧ e1.den < n) → (((C (e1.den))) = ((C (e1.den))))))) ∧ (((((apX C (cut n) 0) = (apX C (cut n) 0)) ∧ ((apY C (cut n) 0) = (apY C (cut n) 0))) ∧ ((((apX C (cut n) (q1 C n)) = (apX C (cut n) (q1 C n))) ∧ ((apY C (cut n) (q1 C n)) = (apY C (cut n) (q1 C n)))) ∧ ((((apX C (cut n) (q2 C n)) = (apX C (cut n) (q2 C n))) ∧ ((apY C (cut n) (q2 C n)) = (apY C (cut n) (q2 C n)))) ∧ (((icX C n) = (icX C n)) ∧ ((icY C n) = (icY C n)))))) ∧ (((((apX C (cut n) 0) = (apX C (cut n) 0)) ∧ ((apY C (cut n) 0) = (apY C (cut n) 0))) ∧ ((((apX C (cut n) (q1 C n)) = (apX C (cut n) (q1 C n))) ∧ ((apY C (cut n) (q1 C n)) = (apY C (cut n) (q1 C n)))) ∧ ((((apX C (cut n) (q2 C n)) = (apX C (cut n) (q2 C n))) ∧ ((apY C (cut n) (q2 C n)) = (apY C (cut n) (q2 C n)))) ∧ (((icX C n) = (icX C n)) ∧ ((icY C n) = (icY C n)))))) ∧ ((((inc (apX C (cut n) 0) (apY C (cut n) 0) (apX C (cut n) (q1 C n)) (apY C (cut n) (q1 C n)) (apX C (cut n) (q2 C n)) (apY C (cut n) (q2 C n)) (icX C n) (icY C n)) ≠ (inc (apX C (cut n) 0) (apY C (cut n) 0) (apX C (cut n) (q1 C n)) (apY C (cut n) (q1 C n)) (apX C (cut n) (q2 C n)) (apY C (cut n) (q2 C n)) (icX C n) (icY C n))) → (((((apX C (cut n) 0) = (apX C (cut n) 0)) ∧ ((apY C (cut n) 0) = (apY C (cut n) 0))) ∧ ((((apX C (cut n) (q1 C n)) = (apX C (cut n) (q1 C n))) ∧ ((apY C (cut n) (q1 C n)) = (apY C (cut n) (q1 C n)))) ∧ ((((apX C (cut n) (q2 C n)) = (apX C (cut n) (q2 C n))) ∧ ((apY C (cut n) (q2 C n)) = (apY C (cut n) (q2 C n)))) ∧ (((icX C n) = (icX C n)) ∧ ((icY C n) = (icY C n)))))) ∧ ((inc (apX C (cut n) 0) (apY C (cut n) 0) (apX C (cut n) (q1 C n)) (apY C (cut n) (q1 C n)) (apX C (cut n) (q2 C n)) (apY C (cut n) (q2 C n)) (icX C n) (icY C n)) = (inc (apX C (cut n) 0) (apY C (cut n) 0) (apX C (cut n) (q1 C n)) (apY C (cut n) (q1 C n)) (apX C (cut n) (q2 C n)) (apY C (cut n) (q2 C n)) (icX C n) (icY C n))))) ∧ (((inc (apX C (cut n) 0) (apY C (cut n) 0) (apX C (cut n) (q1 C n)) (apY C (cut n) (q1 C n)) (apX C (cut n) (q2 C n)) (apY C (cut n) (q2 C n)) (icX C n) (icY C n)) = (inc (apX C (cut n) 0) (apY C (cut n) 0) (apX C (cut n) (q1 C n)) (apY C (cut n) (q1 C n)) (apX C (cut n) (q2 C n)) (apY C (cut n) (q2 C n)) (icX C n) (icY C n))) → ((((inc (apX C (cut n) 0) (apY C (cut n) 0) (apX C (cut n) (q1 C n)) (apY C (cut n) (q1 C n)) (apX C (cut n) (q2 C n)) (apY C (cut n) (q2 C n)) (icX C n) (icY C n)) = 2) → (((((apX C (cut n) 0) = (apX C (cut n) 0)) ∧ ((apY C (cut n) 0) = (apY C (cut n) 0))) ∧ ((((apX C (cut n) (q1 C n)) = (apX C (cut n) (q1 C n))) ∧ ((apY C (cut n) (q1 C n)) = (apY C (cut n) (q1 C n)))) ∧ ((((apX C (cut n) (q2 C n)) = (apX C (cut n) (q2 C n))) ∧ ((apY C (cut n) (q2 C n)) = (apY C (cut n) (q2 C n)))) ∧ (((icX C n) = (icX C n)) ∧ ((icY C n) = (icY C n)))))) ∧ ((inc (apX C (cut n) 0) (apY C (cut n) 0) (apX C (cut n) (q1 C n)) (apY C (cut n) (q1 C n)) (apX C (cut n) (q2 C n)) (apY C (cut n) (q2 C n)) (icX C n) (icY C n)) = (inc (apX C (cut n) 0) (apY C (cut n) 0) (apX C (cut n) (q1 C n)) (apY C (cut n) (q1 C n)) (apX C (cut n) (q2 C n)) (apY C (cut n) (q2 C n)) (icX C n) (icY C n))))) ∧ (((inc (apX C (cut n) 0) (apY C (cut n) 0) (apX C (cut n) (q1 C n)) (apY C (cut n) (q1 C n)) (apX C (cut n) (q2 C n)) (apY C (cut n) (q2 C n)) (icX C n) (icY C n)) ≠ 2) → (((((apX C (cut n) 0) = (apX C (cut n) 0)) ∧ ((apY C (cut n) 0) = (apY C (cut n) 0))) ∧ ((((apX C (cut n) (q1 C n)) = (apX C (cut n) (q1 C n))) ∧ ((apY C (cut n) (q1 C n)) = (apY C (cut n) (q1 C n)))) ∧ ((((apX C (cut n) (q2 C n)) = (apX C (cut n) (q2 C n))) ∧ ((apY C (cut n) (q2 C n)) = (apY C (cut n) (q2 C n)))) ∧ (((icX C n) = (icX C n)) ∧ ((icY C n) = (icY C n)))))) ∧ (((inTri (apX C (cut n) 0) (apY C (cut n) 0) (apX C (cut n) (q1 C n)) (apY C (cut n) (q1 C n)) (apX C (cut n) (q2 C n)) (apY C (cut n) (q2 C n)) (icX C n) (icY C n)) = true) → (0 ≤ (inc (apX C (cut n) 0) (apY C (cut n) 0) (apX C (cut n) (q1 C n)) (apY C (cut n) (q1 C n)) (apX C (cut n) (q2 C n)) (apY C (cut n) (q2 C n)) (icX C n) (icY C n))))))))))))))) (by kernel_rfl) ?_
  intro h1 h2
  intro c3
  refine ⟨rfl, ⟨Int.le_refl _, fun _ => fun _ => rfl⟩, ⟨⟨rfl, rfl⟩, ⟨⟨rfl, rfl⟩, ⟨⟨rfl, rfl⟩, ⟨rfl, rfl⟩⟩⟩⟩, ⟨⟨rfl, rfl⟩, ⟨⟨rfl, rfl⟩, ⟨⟨rfl, rfl⟩, ⟨rfl, rfl⟩⟩⟩⟩, ?_, ?_⟩
  · intro c4
    refine ⟨⟨⟨rfl, rfl⟩, ⟨⟨rfl, rfl⟩, ⟨⟨rfl, rfl⟩, ⟨rfl, rfl⟩⟩⟩⟩, ?_⟩
    -- 1: (inc (apX C (cut n) 0) (apY C (cut n) 0) (apX C (cut n) (q1 C n)) (apY C (cut n) (q1 C n)) (apX C (c
    first | rfl | omega | (have hi := inside (aX := apX C (cut n) 0) (aY := apY C (cut n) 0) (bX := apX C (cut n) (q1 C n)) (bY := apY C (cut n) (q1 C n)) (cX := apX C (cut n) (q2 C n)) (cY := apY C (cut n) (q2 C n)) (dX := icX C n) (dY := icY C n) (by assumption) (by assumption); omega) | (simp_all; done)
  · intro c5
    refine ⟨?_, ?_⟩
    · intro c6
      refine ⟨⟨⟨rfl, rfl⟩, ⟨⟨rfl, rfl⟩, ⟨⟨rfl, rfl⟩, ⟨rfl, rfl⟩⟩⟩⟩, ?_⟩
      -- 2: (inc (apX C (cut n) 0) (apY C (cut n) 0) (apX C (cut n) (q1 C n)) (apY C (cut n) (q1 C n)) (apX C (c
      first | rfl | omega | (have hi := inside (aX := apX C (cut n) 0) (aY := apY C (cut n) 0) (bX := apX C (cut n) (q1 C n)) (bY := apY C (cut n) (q1 C n)) (cX := apX C (cut n) (q2 C n)) (cY := apY C (cut n) (q2 C n)) (dX := icX C n) (dY := icY C n) (by assumption) (by assumption); omega) | (simp_all; done)
    · intro c7
      refine ⟨⟨⟨rfl, rfl⟩, ⟨⟨rfl, rfl⟩, ⟨⟨rfl, rfl⟩, ⟨rfl, rfl⟩⟩⟩⟩, ?_⟩
      intro c8
      -- 3: 0 ≤ (inc (apX C (cut n) 0) (apY C (cut n) 0) (apX C (cut n) (q1 C n)) (apY C (cut n) (q1 C n)) (apX 
      first | rfl | omega | (have hi := inside (aX := apX C (cut n) 0) (aY := apY C (cut n) 0) (bX := apX C (cut n) (q1 C n)) (bY := apY C (cut n) (q1 C n)) (cX := apX C (cut n) (q2 C n)) (cY := apY C (cut n) (q2 C n)) (dX := icX C n) (dY := icY C n) (by assumption) (by assumption); omega) | (simp_all; done)
def c_l_FnCircleInside (C : Int → Int) (n : Int) : Cn Try.prog := ⟨_, _, _, _, _, l_FnCircleInside C n⟩
end Go.Proofs.Ytheehhfmdmflmaa
