/- FnInCircle: the walk. -/
import Derived.Test.YtefikodgmhlfnaaK17
set_option linter.unusedSimpArgs false
set_option linter.unusedVariables false
set_option maxRecDepth 100000
namespace Go.Proofs.Ytefikodgmhlfnaa
open Go.Sym
theorem trn_rot (ax ay bx bY cx cy : Int) : trn bx bY cx cy ax ay = trn ax ay bx bY cx cy := by unfold trn; grind
theorem trn_swap (ax ay bx bY cx cy : Int) : trn bx bY ax ay cx cy = -trn ax ay bx bY cx cy := by unfold trn; grind
theorem circ_rot (ax ay bx bY cx cy dx dy : Int) : circ bx bY cx cy ax ay dx dy = circ ax ay bx bY cx cy dx dy := by unfold circ; grind
theorem circ_swap (ax ay bx bY cx cy dx dy : Int) : circ bx bY ax ay cx cy dx dy = -circ ax ay bx bY cx cy dx dy := by unfold circ; grind
theorem circ_a (ax ay bx bY cx cy : Int) : circ ax ay bx bY cx cy ax ay = 0 := by unfold circ; grind
theorem circ_c (ax ay bx bY cx cy : Int) : circ ax ay bx bY cx cy cx cy = 0 := by unfold circ; grind
theorem sgn_neg (n : Int) : sgn (-n) = -sgn n := by unfold sgn; split <;> (try split) <;> (try split) <;> (try split) <;> omega
theorem inc_plain {ax ay bx bY cx cy dx dy : Int} (h : inc ax ay bx bY cx cy dx dy ≠ 2) :
    inc bx bY cx cy ax ay dx dy = inc ax ay bx bY cx cy dx dy ∧ inc bx bY ax ay cx cy dx dy = inc ax ay bx bY cx cy dx dy ∧ inc ax ay bx bY cx cy ax ay = 0 ∧ inc ax ay bx bY cx cy cx cy = 0 := by
  by_cases hc : (okP ax ay && okP bx bY && okP cx cy && okP dx dy && !decide (trn ax ay bx bY cx cy = 0)) = true
  · have hv := hc
    simp only [Bool.and_eq_true, Bool.not_eq_true', decide_eq_false_iff_not] at hv
    obtain ⟨⟨⟨⟨h1, h2⟩, h3⟩, h4⟩, ht⟩ := hv
    have ht2 : trn bx bY ax ay cx cy ≠ 0 := by rw [trn_swap]; omega
    unfold inc
    rw [trn_rot ax ay bx bY cx cy, trn_swap ax ay bx bY cx cy, circ_rot ax ay bx bY cx cy dx dy, circ_swap ax ay bx bY cx cy dx dy, circ_a ax ay bx bY cx cy, circ_c ax ay bx bY cx cy, sgn_neg, sgn_neg, Int.neg_mul_neg]
    have ht3 : ¬ (-trn ax ay bx bY cx cy = 0) := by omega
    rw [h1, h2, h3, h4, decide_eq_false ht, decide_eq_false ht3]
    refine ⟨rfl, rfl, ?_, ?_⟩ <;> simp [sgn]
  · exact absurd (if_neg hc) h
def q3 (C : Int → Int) (n : Int) : Int := apP C (cut n) (q2 C n)
def icX (C : Int → Int) (n : Int) : Int := if pk C (cut n) (q3 C n) 4 = 0 then apX C (cut n) 0 + apX C (cut n) (q2 C n) - apX C (cut n) (q1 C n) else apX C (cut n) (q3 C n + 1)
def icY (C : Int → Int) (n : Int) : Int := if pk C (cut n) (q3 C n) 4 = 0 then apY C (cut n) 0 + apY C (cut n) (q2 C n) - apY C (cut n) (q1 C n) else apY C (cut n) (q3 C n + 1)
theorem s_DrawInCircle (C : Int → Int) (n : Int) : RunsTo Try.prog 4 [(.sl 0 1 (.lit 0) (.v fun _ => n) 9223372036854775807)] [some ⟨5, 1, false, (.sym (.v fun _ => n) fun e => [(.int .u8 (.v fun _ => (C (e.den))) 0 255)])⟩] (.tup [(.agg [(.int .i64 (.v fun _ => apX C (cut n) 0) (-1001) 1001), (.int .i64 (.v fun _ => apY C (cut n) 0) (-1001) 1001)]), (.agg [(.int .i64 (.v fun _ => apX C (cut n) (q1 C n)) (-1001) 1001), (.int .i64 (.v fun _ => apY C (cut n) (q1 C n)) (-1001) 1001)]), (.agg [(.int .i64 (.v fun _ => apX C (cut n) (q2 C n)) (-1001) 1001), (.int .i64 (.v fun _ => apY C (cut n) (q2 C n)) (-1001) 1001)]), (.agg [(.int .i64 (.v fun _ => icX C n) (-3003) 3003), (.int .i64 (.v fun _ => icY C n) (-3003) 3003)])]) [some ⟨5, 1, false, (.sym (.v fun _ => cut n) fun e => [(.int .u8 (.v fun _ => (C (e.den))) 0 255)])⟩] := by
  refine RunsTo.go env Try.func4 rfl Try.call4 rfl rfl (fun _ _ => (.call (c_s_newReader C n) (.call (c_anyPoint C (cut n) 0) (.call (c_anyPoint C (cut n) (apP C (cut n) 0)) (.call (c_anyPoint C (cut n) (apP C (cut n) (apP C (cut n) 0))) (.call (c_pick_4 C (cut n) (apP C (cut n) (apP C (cut n) (apP C (cut n) 0)))) (.ite .ret (.call (c_anyPoint C (cut n) ((apP C (cut n) (apP C (cut n) (apP C (cut n) 0))) + 1)) .ret)))))))) (G := (0 ≤ n ∧ n ≤ 9223372036854775807) → (∀ e9 : E, ((0 ≤ e9.den ∧ e9.den < n) → (0 ≤ ((C (e9.den))) ∧ ((C (e9.den))) ≤ 255))) → ((n = n) ∧ (((n ≤ n) ∧ (∀ e1 : E, ((0 ≤ e1.den ∧ e1.den < n) → (((C (e1.den))) = ((C (e1.den))))))) ∧ (((((cut n) = (cut n)) ∧ ((0 : Int) = 0)) ∧ (((cut n) ≤ (cut n)) ∧ (∀ e2 : E, ((0 ≤ e2.den ∧ e2.den < (cut n)) → (((C (e2.den))) = ((C (e2.den)))))))) ∧ (((((cut n) = (cut n)) ∧ (((apP C (cut n) 0) = (apP C (cut n) 0)) ∧ ((0 ≤ (apP C (cut n) 0) ∧ (apP C (cut n) 0) ≤ 9999904) → (0 ≤ (apP C (cut n) 0) ∧ (apP C (cut n) 0) ≤ 9999900)))) ∧ (((cut n) ≤ (cut n)) ∧ (∀ e3 : E, ((0 ≤ e3.den ∧ e3.den < (cut n)) → (((C (e3.den))) = ((C (e3.den)))))))) ∧ (((((cut n) = (cut n)) ∧ (((apP C (cut n) (apP C (cut n) 0)) = (apP C (cut n) (apP C (cut n) 0))) ∧ ((0 ≤ (apP C (cut n) (apP C (cut n) 0)) ∧ (apP C (cut n) (apP C (cut n) 0)) ≤ 9999904) → (0 ≤ (apP C (cut n) (apP C (cut n) 0)) ∧ (apP C (cut n) (apP C (cut n) 0)) ≤ 9999900)))) ∧ (((cut n) ≤ (cut n)) ∧ (∀ e4 : E, ((0 ≤ e4.den ∧ e4.den < (cut n)) → (((C (e4.den))) = ((C (e4.den)))))))) ∧ (((((cut n) = (cut n)) ∧ ((apP C (cut n) (apP C (cut n) (apP C (cut n) 0))) = ((apP C (cut n) (apP C (cut n) (apP C (cut n) 0)))))) ∧ (((cut n) ≤ (cut n)) ∧ (∀ e5 : E, ((0 ≤ e5.den ∧ e5.den < (cut n)) → (((C (e5.den))) = ((C (e5.den)))))))) ∧ ((((pk C (cut n) (apP C (cut n) (apP C (cut n) (apP C (cut n) 0))) 4) = 0) → (((((apX C (cut n) 0) = (apX C (cut n) 0)) ∧ ((apY C (cut n) 0) = (apY C (cut n) 0))) ∧ ((((apX C (cut n) (apP C (cut n) 0)) = (apX C (cut n) (q1 C n))) ∧ ((apY C (cut n) (apP C (cut n) 0)) = (apY C (cut n) (q1 C n)))) ∧ ((((apX C (cut n) (apP C (cut n) (apP C (cut n) 0))) = (apX C (cut n) (q2 C n))) ∧ ((apY C (cut n) (apP C (cut n) (apP C (cut n) 0))) = (apY C (cut n) (q2 C n)))) ∧ (((((apX C (cut n) 0) + (apX C (cut n) (apP C (cut n) (apP C (cut n) 0)))) - (apX C (cut n) (apP C (cut n) 0))) = (icX C n)) ∧ ((((apY C (cut n) 0) + (apY C (cut n) (apP C (cut n) (apP C (cut n) 0)))) - (apY C (cut n) (apP C (cut n) 0))) = (icY C n)))))) ∧ (((cut n) ≤ (cut n)) ∧ (∀ e6 : E, ((0 ≤ e6.den ∧ e6.den < (cut n)) → (((C (e6.den))) = ((C (e6.den))))))))) ∧ (((pk C (cut n) (apP C (cut n) (apP C (cut n) (apP C (cut n) 0))) 4) ≠ 0) → (((((cut n) = (cut n)) ∧ ((((apP C (cut n) (apP C (cut n) (apP C (cut n) 0))) + 1) = (((apP C (cut n) (apP C (cut n) (apP C (cut n) 0))) + 1))) ∧ ((0 ≤ ((apP C (cut n) (apP C (cut n) (apP C (cut n) 0))) + 1) ∧ ((apP C (cut n) (apP C (cut n) (apP C (cut n) 0))) + 1) ≤ 10000001) → (0 ≤ (((apP C (cut n) (apP C (cut n) (apP C (cut n) 0))) + 1)) ∧ (((apP C (cut n) (apP C (cut n) (apP C (cut n) 0))) + 1)) ≤ 9999900)))) ∧ (((cut n) ≤ (cut n)) ∧ (∀ e7 : E, ((0 ≤ e7.den ∧ e7.den < (cut n)) → (((C (e7.den))) = ((C (e7.den)))))))) ∧ (((((apX C (cut n) 0) = (apX C (cut n) 0)) ∧ ((apY C (cut n) 0) = (apY C (cut n) 0))) ∧ ((((apX C (cut n) (apP C (cut n) 0)) = (apX C (cut n) (q1 C n))) ∧ ((apY C (cut n) (apP C (cut n) 0)) = (apY C (cut n) (q1 C n)))) ∧ ((((apX C (cut n) (apP C (cut n) (apP C (cut n) 0))) = (apX C (cut n) (q2 C n))) ∧ ((apY C (cut n) (apP C (cut n) (apP C (cut n) 0))) = (apY C (cut n) (q2 C n)))) ∧ (((apX C (cut n) ((apP C (cut n) (apP C (cut n) (apP C (cut n) 0))) + 1)) = (icX C n)) ∧ ((apY C (cut n) ((apP C (cut n) (apP C (cut n) (apP C (cut n) 0))) + 1)) = (icY C n)))))) ∧ (((cut n) ≤ (cut n)) ∧ (∀ e8 : E, ((0 ≤ e8.den ∧ e8.den < (cut n)) → (((C (e8.den))) = ((C (e8.den)))))))))))))))))) (by kernel_rfl) ?_
  intro h1 h2
  have a1 := apP_bd C (cut n) 0
  have a2 := apP_bd C (cut n) (apP C (cut n) 0)
  have a3 := apP_bd C (cut n) (apP C (cut n) (apP C (cut n) 0))
  refine ⟨rfl, ⟨Int.le_refl _, fun _ => fun _ => rfl⟩, ⟨⟨rfl, rfl⟩, ⟨Int.le_refl _, fun _ => fun _ => rfl⟩⟩, ?_, ?_, ⟨⟨rfl, rfl⟩, ⟨Int.le_refl _, fun _ => fun _ => rfl⟩⟩, ?_, ?_⟩
  · refine ⟨?_, Int.le_refl _, fun _ => fun _ => rfl⟩
    refine ⟨rfl, rfl, ?_⟩
    intro c10
    -- 1: 0 ≤ (apP C (cut n) 0) ∧ (apP C (cut n) 0) ≤ 9999900
    first | rfl | omega | (simp_all [icX, icY, q1, q2, q3]; done) | (simp_all [icX, icY, q1, q2, q3]; omega) | fail
  · refine ⟨?_, Int.le_refl _, fun _ => fun _ => rfl⟩
    refine ⟨rfl, rfl, ?_⟩
    intro c11
    -- 2: 0 ≤ (apP C (cut n) (apP C (cut n) 0)) ∧ (apP C (cut n) (apP C (cut n) 0)) ≤ 9999900
    first | rfl | omega | (simp_all [icX, icY, q1, q2, q3]; done) | (simp_all [icX, icY, q1, q2, q3]; omega) | fail
  · intro c12
    refine ⟨?_, Int.le_refl _, fun _ => fun _ => rfl⟩
    refine ⟨⟨rfl, rfl⟩, ?_, ?_, ?_, ?_⟩
    · refine ⟨?_, ?_⟩
        -- 3: (apX C (cut n) (apP C (cut n) 0)) = (apX C (cut n) (q1 C n))
      · first | rfl | omega | (simp_all [icX, icY, q1, q2, q3]; done) | (simp_all [icX, icY, q1, q2, q3]; omega) | fail
        -- 4: (apY C (cut n) (apP C (cut n) 0)) = (apY C (cut n) (q1 C n))
      · first | rfl | omega | (simp_all [icX, icY, q1, q2, q3]; done) | (simp_all [icX, icY, q1, q2, q3]; omega) | fail
    · refine ⟨?_, ?_⟩
        -- 5: (apX C (cut n) (apP C (cut n) (apP C (cut n) 0))) = (apX C (cut n) (q2 C n))
      · first | rfl | omega | (simp_all [icX, icY, q1, q2, q3]; done) | (simp_all [icX, icY, q1, q2, q3]; omega) | fail
        -- 6: (apY C (cut n) (apP C (cut n) (apP C (cut n) 0))) = (apY C (cut n) (q2 C n))
      · first | rfl | omega | (simp_all [icX, icY, q1, q2, q3]; done) | (simp_all [icX, icY, q1, q2, q3]; omega) | fail
      -- 7: (((apX C (cut n) 0) + (apX C (cut n) (apP C (cut n) (apP C (cut n) 0)))) - (apX C (cut n) (apP C (cu
    · first | rfl | omega | (simp_all [icX, icY, q1, q2, q3]; done) | (simp_all [icX, icY, q1, q2, q3]; omega) | fail
      -- 8: (((apY C (cut n) 0) + (apY C (cut n) (apP C (cut n) (apP C (cut n) 0)))) - (apY C (cut n) (apP C (cu
    · first | rfl | omega | (simp_all [icX, icY, q1, q2, q3]; done) | (simp_all [icX, icY, q1, q2, q3]; omega) | fail
  · intro c13
    refine ⟨?_, ?_, Int.le_refl _, fun _ => fun _ => rfl⟩
    · refine ⟨?_, Int.le_refl _, fun _ => fun _ => rfl⟩
      refine ⟨rfl, rfl, ?_⟩
      intro c14
      -- 9: 0 ≤ (((apP C (cut n) (apP C (cut n) (apP C (cut n) 0))) + 1)) ∧ (((apP C (cut n) (apP C (cut n) (apP
      first | rfl | omega | (simp_all [icX, icY, q1, q2, q3]; done) | (simp_all [icX, icY, q1, q2, q3]; omega) | fail
    · refine ⟨⟨rfl, rfl⟩, ?_, ?_, ?_, ?_⟩
      · refine ⟨?_, ?_⟩
          -- 10: (apX C (cut n) (apP C (cut n) 0)) = (apX C (cut n) (q1 C n))
        · first | rfl | omega | (simp_all [icX, icY, q1, q2, q3]; done) | (simp_all [icX, icY, q1, q2, q3]; omega) | fail
          -- 11: (apY C (cut n) (apP C (cut n) 0)) = (apY C (cut n) (q1 C n))
        · first | rfl | omega | (simp_all [icX, icY, q1, q2, q3]; done) | (simp_all [icX, icY, q1, q2, q3]; omega) | fail
      · refine ⟨?_, ?_⟩
          -- 12: (apX C (cut n) (apP C (cut n) (apP C (cut n) 0))) = (apX C (cut n) (q2 C n))
        · first | rfl | omega | (simp_all [icX, icY, q1, q2, q3]; done) | (simp_all [icX, icY, q1, q2, q3]; omega) | fail
          -- 13: (apY C (cut n) (apP C (cut n) (apP C (cut n) 0))) = (apY C (cut n) (q2 C n))
        · first | rfl | omega | (simp_all [icX, icY, q1, q2, q3]; done) | (simp_all [icX, icY, q1, q2, q3]; omega) | fail
        -- 14: (apX C (cut n) ((apP C (cut n) (apP C (cut n) (apP C (cut n) 0))) + 1)) = (icX C n)
      · first | rfl | omega | (simp_all [icX, icY, q1, q2, q3]; done) | (simp_all [icX, icY, q1, q2, q3]; omega) | fail
        -- 15: (apY C (cut n) ((apP C (cut n) (apP C (cut n) (apP C (cut n) 0))) + 1)) = (icY C n)
      · first | rfl | omega | (simp_all [icX, icY, q1, q2, q3]; done) | (simp_all [icX, icY, q1, q2, q3]; omega) | fail
def c_s_DrawInCircle (C : Int → Int) (n : Int) : Cn Try.prog := ⟨_, _, _, _, _, s_DrawInCircle C n⟩
theorem l_FnInCircle (C : Int → Int) (n : Int) : RunsTo Try.prog 3 [(.sl 0 1 (.lit 0) (.v fun _ => n) 9223372036854775807)] [some ⟨5, 1, false, (.sym (.v fun _ => n) fun e => [(.int .u8 (.v fun _ => (C (e.den))) 0 255)])⟩] (.bool (.lit true)) [none] := by
  refine RunsTo.go env Try.func3 rfl Try.call3 rfl rfl (fun _ _ => (.ite .ret (.call (c_s_DrawInCircle C n) (.call (c_i_InCircle (apX C (cut n) 0) (apY C (cut n) 0) (apX C (cut n) (q1 C n)) (apY C (cut n) (q1 C n)) (apX C (cut n) (q2 C n)) (apY C (cut n) (q2 C n)) (icX C n) (icY C n)) (.call (c_s_InCircle (apX C (cut n) 0) (apY C (cut n) 0) (apX C (cut n) (q1 C n)) (apY C (cut n) (q1 C n)) (apX C (cut n) (q2 C n)) (apY C (cut n) (q2 C n)) (icX C n) (icY C n)) (.ite (.call (c_s_InCircle (apX C (cut n) 0) (apY C (cut n) 0) (apX C (cut n) (q1 C n)) (apY C (cut n) (q1 C n)) (apX C (cut n) (q2 C n)) (apY C (cut n) (q2 C n)) (icX C n) (icY C n)) .ret) (.ite (.call (c_s_InCircle (apX C (cut n) 0) (apY C (cut n) 0) (apX C (cut n) (q1 C n)) (apY C (cut n) (q1 C n)) (apX C (cut n) (q2 C n)) (apY C (cut n) (q2 C n)) (icX C n) (icY C n)) .ret) (.call (c_i_InCircle (apX C (cut n) (q1 C n)) (apY C (cut n) (q1 C n)) (apX C (cut n) (q2 C n)) (apY C (cut n) (q2 C n)) (apX C (cut n) 0) (apY C (cut n) 0) (icX C n) (icY C n)) (.ite (.call (c_i_InCircle (apX C (cut n) (q1 C n)) (apY C (cut n) (q1 C n)) (apX C (cut n) 0) (apY C (cut n) 0) (apX C (cut n) (q2 C n)) (apY C (cut n) (q2 C n)) (icX C n) (icY C n)) (.ite (.call (c_i_InCircle (apX C (cut n) 0) (apY C (cut n) 0) (apX C (cut n) (q1 C n)) (apY C (cut n) (q1 C n)) (apX C (cut n) (q2 C n)) (apY C (cut n) (q2 C n)) (apX C (cut n) 0) (apY C (cut n) 0)) (.ite (.call (c_i_InCircle (apX C (cut n) 0) (apY C (cut n) 0) (apX C (cut n) (q1 C n)) (apY C (cut n) (q1 C n)) (apX C (cut n) (q2 C n)) (apY C (cut n) (q2 C n)) (apX C (cut n) (q2 C n)) (apY C (cut n) (q2 C n))) .ret) .ret)) .ret)) .ret))))))))) (G := (0 ≤ n ∧ n ≤ 9223372036854775807) → (∀ e2 : E, ((0 ≤ e2.den ∧ e2.den < n) → (0 ≤ ((C (e2.den))) ∧ ((C (e2.den))) ≤ 255))) → ((n ≤ 1048576) → ((n = n) ∧ (((n ≤ n) ∧ (∀ e1 : E, ((0 ≤ e1.den ∧ e1.den < n) → (((C (e1.den))) = ((C (e1.den))))))) ∧ (((((apX C (cut n) 0) = (apX C (cut n) 0)) ∧ ((apY C (cut n) 0) = (apY C (cut n) 0))) ∧ ((((apX C (cut n) (q1 C n)) = (apX C (cut n) (q1 C n))) ∧ ((apY C (cut n) (q1 C n)) = (apY C (cut n) (q1 C n)))) ∧ ((((apX C (cut n) (q2 C n)) = (apX C (cut n) (q2 C n))) ∧ ((apY C (cut n) (q2 C n)) = (apY C (cut n) (q2 C n)))) ∧ (((icX C n) = (icX C n)) ∧ ((icY C n) = (icY C n)))))) ∧ (((((apX C (cut n) 0) = (apX C (cut n) 0)) ∧ ((apY C (cut n) 0) = (apY C (cut n) 0))) ∧ ((((apX C (cut n) (q1 C n)) = (apX C (cut n) (q1 C n))) ∧ ((apY C (cut n) (q1 C n)) = (apY C (cut n) (q1 C n)))) ∧ ((((apX C (cut n) (q2 C n)) = (apX C (cut n) (q2 C n))) ∧ ((apY C (cut n) (q2 C n)) = (apY C (cut n) (q2 C n)))) ∧ (((icX C n) = (icX C n)) ∧ ((icY C n) = (icY C n)))))) ∧ ((((inc (apX C (cut n) 0) (apY C (cut n) 0) (apX C (cut n) (q1 C n)) (apY C (cut n) (q1 C n)) (apX C (cut n) (q2 C n)) (apY C (cut n) (q2 C n)) (icX C n) (icY C n)) ≠ (inc (apX C (cut n) 0) (apY C (cut n) 0) (apX C (cut n) (q1 C n)) (apY C (cut n) (q1 C n)) (apX C (cut n) (q2 C n)) (apY C (cut n) (q2 C n)) (icX C n) (icY C n))) → (((((apX C (cut n) 0) = (apX C (cut n) 0)) ∧ ((apY C (cut n) 0) = (apY C (cut n) 0))) ∧ ((((apX C (cut n) (q1 C n)) = (apX C (cut n) (q1 C n))) ∧ ((apY C (cut n) (q1 C n)) = (apY C (cut n) (q1 C n)))) ∧ ((((apX C (cut n) (q2 C n)) = (apX C (cut n) (q2 C n))) ∧ ((apY C (cut n) (q2 C n)) = (apY C (cut n) (q2 C n)))) ∧ (((icX C n) = (icX C n)) ∧ ((icY C n) = (icY C n)))))) ∧ ((inc (apX C (cut n) 0) (apY C (cut n) 0) (apX C (cut n) (q1 C n)) (apY C (cut n) (q1 C n)) (apX C (cut n) (q2 C n)) (apY C (cut n) (q2 C n)) (icX C n) (icY C n)) = (inc (apX C (cut n) 0) (apY C (cut n) 0) (apX C (cut n) (q1 C n)) (apY C (cut n) (q1 C n)) (apX C (cut n) (q2 C n)) (apY C (cut n) (q2 C n)) (icX C n) (icY C n))))) ∧ (((inc (apX C (cut n) 0) (apY C (cut n) 0) (apX C (cut n) (q1 C n)) (apY C (cut n) (q1 C n)) (apX C (cut n) (q2 C n)) (apY C (cut n) (q2 C n)) (icX C n) (icY C n)) = (inc (apX C (cut n) 0) (apY C (cut n) 0) (apX C (cut n) (q1 C n)) (apY C (cut n) (q1 C n)) (apX C (cut n) (q2 C n)) (apY C (cut n) (q2 C n)) (icX C n) (icY C n))) → ((((inc (apX C (cut n) 0) (apY C (cut n) 0) (apX C (cut n) (q1 C n)) (apY C (cut n) (q1 C n)) (apX C (cut n) (q2 C n)) (apY C (cut n) (q2 C n)) (icX C n) (icY C n)) = 2) → (((((apX C (cut n) 0) = (apX C (cut n) 0)) ∧ ((apY C (cut n) 0) = (apY C (cut n) 0))) ∧ ((((apX C (cut n) (q1 C n)) = (apX C (cut n) (q1 C n))) ∧ ((apY C (cut n) (q1 C n)) = (apY C (cut n) (q1 C n)))) ∧ ((((apX C (cut n) (q2 C n)) = (apX C (cut n) (q2 C n))) ∧ ((apY C (cut n) (q2 C n)) = (apY C (cut n) (q2 C n)))) ∧ (((icX C n) = (icX C n)) ∧ ((icY C n) = (icY C n)))))) ∧ ((inc (apX C (cut n) 0) (apY C (cut n) 0) (apX C (cut n) (q1 C n)) (apY C (cut n) (q1 C n)) (apX C (cut n) (q2 C n)) (apY C (cut n) (q2 C n)) (icX C n) (icY C n)) = (inc (apX C (cut n) 0) (apY C (cut n) 0) (apX C (cut n) (q1 C n)) (apY C (cut n) (q1 C n)) (apX C (cut n) (q2 C n)) (apY C (cut n) (q2 C n)) (icX C n) (icY C n))))) ∧ (((inc (apX C (cut n) 0) (apY C (cut n) 0) (apX C (cut n) (q1 C n)) (apY C (cut n) (q1 C n)) (apX C (cut n) (q2 C n)) (apY C (cut n) (q2 C n)) (icX C n) (icY C n)) ≠ 2) → (((((apX C (cut n) (q1 C n)) = (apX C (cut n) (q1 C n))) ∧ ((apY C (cut n) (q1 C n)) = (apY C (cut n) (q1 C n)))) ∧ ((((apX C (cut n) (q2 C n)) = (apX C (cut n) (q2 C n))) ∧ ((apY C (cut n) (q2 C n)) = (apY C (cut n) (q2 C n)))) ∧ ((((apX C (cut n) 0) = (apX C (cut n) 0)) ∧ ((apY C (cut n) 0) = (apY C (cut n) 0))) ∧ (((icX C n) = (icX C n)) ∧ ((icY C n) = (icY C n)))))) ∧ ((((inc (apX C (cut n) (q1 C n)) (apY C (cut n) (q1 C n)) (apX C (cut n) (q2 C n)) (apY C (cut n) (q2 C n)) (apX C (cut n) 0) (apY C (cut n) 0) (icX C n) (icY C n)) = (inc (apX C (cut n) 0) (apY C (cut n) 0) (apX C (cut n) (q1 C n)) (apY C (cut n) (q1 C n)) (apX C (cut n) (q2 C n)) (apY C (cut n) (q2 C n)) (icX C n) (icY C n))) → (((((apX C (cut n) (q1 C n)) = (apX C (cut n) (q1 C n))) ∧ ((apY C (cut n) (q1 C n)) = (apY C (cut n) (q1 C n)))) ∧ ((((apX C (cut n) 0) = (apX C (cut n) 0)) ∧ ((apY C (cut n) 0) = (apY C (cut n) 0))) ∧ ((((apX C (cut n) (q2 C n)) = (apX C (cut n) (q2 C n))) ∧ ((apY C (cut n) (q2 C n)) = (apY C (cut n) (q2 C n)))) ∧ (((icX C n) = (icX C n)) ∧ ((icY C n) = (icY C n)))))) ∧ ((((inc (apX C (cut n) (q1 C n)) (apY C (cut n) (q1 C n)) (apX C (cut n) 0) (apY C (cut n) 0) (apX C (cut n) (q2 C n)) (apY C (cut n) (q2 C n)) (icX C n) (icY C n)) = (inc (apX C (cut n) 0) (apY C (cut n) 0) (apX C (cut n) (q1 C n)) (apY C (cut n) (q1 C n)) (apX C (cut n) (q2 C n)) (apY C (cut n) (q2 C n)) (icX C n) (icY C n))) → (((((apX C (cut n) 0) = (apX C (cut n) 0)) ∧ ((apY C (cut n) 0) = (apY C (cut n) 0))) ∧ ((((apX C (cut n) (q1 C n)) = (apX C (cut n) (q1 C n))) ∧ ((apY C (cut n) (q1 C n)) = (apY C (cut n) (q1 C n)))) ∧ ((((apX C (cut n) (q2 C n)) = (apX C (cut n) (q2 C n))) ∧ ((apY C (cut n) (q2 C n)) = (apY C (cut n) (q2 C n)))) ∧ (((apX C (cut n) 0) = (apX C (cut n) 0)) ∧ ((apY C (cut n) 0) = (apY C (cut n) 0)))))) ∧ ((((inc (apX C (cut n) 0) (apY C (cut n) 0) (apX C (cut n) (q1 C n)) (apY C (cut n) (q1 C n)) (apX C (cut n) (q2 C n)) (apY C (cut n) (q2 C n)) (apX C (cut n) 0) (apY C (cut n) 0)) = 0) → (((((apX C (cut n) 0) = (apX C (cut n) 0)) ∧ ((apY C (cut n) 0) = (apY C (cut n) 0))) ∧ ((((apX C (cut n) (q1 C n)) = (apX C (cut n) (q1 C n))) ∧ ((apY C (cut n) (q1 C n)) = (apY C (cut n) (q1 C n)))) ∧ ((((apX C (cut n) (q2 C n)) = (apX C (cut n) (q2 C n))) ∧ ((apY C (cut n) (q2 C n)) = (apY C (cut n) (q2 C n)))) ∧ (((apX C (cut n) (q2 C n)) = (apX C (cut n) (q2 C n))) ∧ ((apY C (cut n) (q2 C n)) = (apY C (cut n) (q2 C n))))))) ∧ ((inc (apX C (cut n) 0) (apY C (cut n) 0) (apX C (cut n) (q1 C n)) (apY C (cut n) (q1 C n)) (apX C (cut n) (q2 C n)) (apY C (cut n) (q2 C n)) (apX C (cut n) (q2 C n)) (apY C (cut n) (q2 C n))) = 0))) ∧ (((inc (apX C (cut n) 0) (apY C (cut n) 0) (apX C (cut n) (q1 C n)) (apY C (cut n) (q1 C n)) (apX C (cut n) (q2 C n)) (apY C (cut n) (q2 C n)) (apX C (cut n) 0) (apY C (cut n) 0)) ≠ 0) → (False))))) ∧ (((inc (apX C (cut n) (q1 C n)) (apY C (cut n) (q1 C n)) (apX C (cut n) 0) (apY C (cut n) 0) (apX C (cut n) (q2 C n)) (apY C (cut n) (q2 C n)) (icX C n) (icY C n)) ≠ (inc (apX C (cut n) 0) (apY C (cut n) 0) (apX C (cut n) (q1 C n)) (apY C (cut n) (q1 C n)) (apX C (cut n) (q2 C n)) (apY C (cut n) (q2 C n)) (icX C n) (icY C n))) → (False))))) ∧ (((inc (apX C (cut n) (q1 C n)) (apY C (cut n) (q1 C n)) (apX C (cut n) (q2 C n)) (apY C (cut n) (q2 C n)) (apX C (cut n) 0) (apY C (cut n) 0) (icX C n) (icY C n)) ≠ (inc (apX C (cut n) 0) (apY C (cut n) 0) (apX C (cut n) (q1 C n)) (apY C (cut n) (q1 C n)) (apX C (cut n) (q2 C n)) (apY C (cut n) (q2 C n)) (icX C n) (icY C n))) → (False)))))))))))))) (by kernel_rfl) ?_
  intro h1 h2
  intro c3
  refine ⟨rfl, ⟨Int.le_refl _, fun _ => fun _ => rfl⟩, ⟨⟨rfl, rfl⟩, ⟨⟨rfl, rfl⟩, ⟨⟨rfl, rfl⟩, ⟨rfl, rfl⟩⟩⟩⟩, ⟨⟨rfl, rfl⟩, ⟨⟨rfl, rfl⟩, ⟨⟨rfl, rfl⟩, ⟨rfl, rfl⟩⟩⟩⟩, ?_, ?_⟩
  · intro c4
    refine ⟨⟨⟨rfl, rfl⟩, ⟨⟨rfl, rfl⟩, ⟨⟨rfl, rfl⟩, ⟨rfl, rfl⟩⟩⟩⟩, ?_⟩
    -- 1: (inc (apX C (cut n) 0) (apY C (cut n) 0) (apX C (cut n) (q1 C n)) (apY C (cut n) (q1 C n)) (apX C (c
    first | rfl | omega | (have hp := inc_plain (ax := apX C (cut n) 0) (ay := apY C (cut n) 0) (bx := apX C (cut n) (q1 C n)) (bY := apY C (cut n) (q1 C n)) (cx := apX C (cut n) (q2 C n)) (cy := apY C (cut n) (q2 C n)) (dx := icX C n) (dy := icY C n) (by assumption); obtain ⟨h1, h2, h3, h4⟩ := hp; first | exact h1 | exact h2 | exact h3 | exact h4 | omega | (simp_all; done)) | (simp_all; done) | fail
  · intro c5
    refine ⟨?_, ?_⟩
    · intro c6
      refine ⟨⟨⟨rfl, rfl⟩, ⟨⟨rfl, rfl⟩, ⟨⟨rfl, rfl⟩, ⟨rfl, rfl⟩⟩⟩⟩, ?_⟩
      -- 2: (inc (apX C (cut n) 0) (apY C (cut n) 0) (apX C (cut n) (q1 C n)) (apY C (cut n) (q1 C n)) (apX C (c
      first | rfl | omega | (have hp := inc_plain (ax := apX C (cut n) 0) (ay := apY C (cut n) 0) (bx := apX C (cut n) (q1 C n)) (bY := apY C (cut n) (q1 C n)) (cx := apX C (cut n) (q2 C n)) (cy := apY C (cut n) (q2 C n)) (dx := icX C n) (dy := icY C n) (by assumption); obtain ⟨h1, h2, h3, h4⟩ := hp; first | exact h1 | exact h2 | exact h3 | exact h4 | omega | (simp_all; done)) | (simp_all; done) | fail
    · intro c7
      refine ⟨⟨⟨rfl, rfl⟩, ⟨⟨rfl, rfl⟩, ⟨⟨rfl, rfl⟩, ⟨rfl, rfl⟩⟩⟩⟩, ?_, ?_⟩
      · intro c8
        refine ⟨⟨⟨rfl, rfl⟩, ⟨⟨rfl, rfl⟩, ⟨⟨rfl, rfl⟩, ⟨rfl, rfl⟩⟩⟩⟩, ?_, ?_⟩
        · intro c9
          refine ⟨⟨⟨rfl, rfl⟩, ⟨⟨rfl, rfl⟩, ⟨⟨rfl, rfl⟩, ⟨rfl, rfl⟩⟩⟩⟩, ?_, ?_⟩
          · intro c10
            refine ⟨⟨⟨rfl, rfl⟩, ⟨⟨rfl, rfl⟩, ⟨⟨rfl, rfl⟩, ⟨rfl, rfl⟩⟩⟩⟩, ?_⟩
            -- 3: (inc (apX C (cut n) 0) (apY C (cut n) 0) (apX C (cut n) (q1 C n)) (apY C (cut n) (q1 C n)) (apX C (c
            first | rfl | omega | (have hp := inc_plain (ax := apX C (cut n) 0) (ay := apY C (cut n) 0) (bx := apX C (cut n) (q1 C n)) (bY := apY C (cut n) (q1 C n)) (cx := apX C (cut n) (q2 C n)) (cy := apY C (cut n) (q2 C n)) (dx := icX C n) (dy := icY C n) (by assumption); obtain ⟨h1, h2, h3, h4⟩ := hp; first | exact h1 | exact h2 | exact h3 | exact h4 | omega | (simp_all; done)) | (simp_all; done) | fail
          · intro c11
            -- 4: False
            first | rfl | omega | (have hp := inc_plain (ax := apX C (cut n) 0) (ay := apY C (cut n) 0) (bx := apX C (cut n) (q1 C n)) (bY := apY C (cut n) (q1 C n)) (cx := apX C (cut n) (q2 C n)) (cy := apY C (cut n) (q2 C n)) (dx := icX C n) (dy := icY C n) (by assumption); obtain ⟨h1, h2, h3, h4⟩ := hp; first | exact h1 | exact h2 | exact h3 | exact h4 | omega | (simp_all; done)) | (simp_all; done) | fail
        · intro c12
          -- 5: False
          first | rfl | omega | (have hp := inc_plain (ax := apX C (cut n) 0) (ay := apY C (cut n) 0) (bx := apX C (cut n) (q1 C n)) (bY := apY C (cut n) (q1 C n)) (cx := apX C (cut n) (q2 C n)) (cy := apY C (cut n) (q2 C n)) (dx := icX C n) (dy := icY C n) (by assumption); obtain ⟨h1, h2, h3, h4⟩ := hp; first | exact h1 | exact h2 | exact h3 | exact h4 | omega | (simp_all; done)) | (simp_all; done) | fail
      · intro c13
        -- 6: False
        first | rfl | omega | (have hp := inc_plain (ax := apX C (cut n) 0) (ay := apY C (cut n) 0) (bx := apX C (cut n) (q1 C n)) (bY := apY C (cut n) (q1 C n)) (cx := apX C (cut n) (q2 C n)) (cy := apY C (cut n) (q2 C n)) (dx := icX C n) (dy := icY C n) (by assumption); obtain ⟨h1, h2, h3, h4⟩ := hp; first | exact h1 | exact h2 | exact h3 | exact h4 | omega | (simp_all; done)) | (simp_all; done) | fail
def c_l_FnInCircle (C : Int → Int) (n : Int) : Cn Try.prog := ⟨_, _, _, _, _, l_FnInCircle C n⟩
end Go.Proofs.Ytefikodgmhlfnaa
