/- FnExactIsDrawing: the walk. -/
import Derived.Test.YtoielngedkbmbaaK24
set_option linter.unusedSimpArgs false
set_option linter.unusedVariables false
set_option maxRecDepth 100000
namespace Go.Proofs.Ytoielngedkbmbaa
open Go.Sym
theorem l_FnExactIsDrawing (P : Int → Int) (Q : Int → Int) (R : Int → Int) (S : Int → Int) (n : Int) : RunsTo Try.prog 11 [(.sl 0 4 (.lit 0) (.v fun _ => n) 9223372036854775807)] [some ⟨42, 4, false, (.sym (.v fun _ => n) fun e => [(.int .i64 (.v fun _ => (P (e.den))) (-9223372036854775808) 9223372036854775807), (.int .i64 (.v fun _ => (Q (e.den))) (-9223372036854775808) 9223372036854775807), (.int .i64 (.v fun _ => (R (e.den))) (-9223372036854775808) 9223372036854775807), (.int .i64 (.v fun _ => (S (e.den))) (-9223372036854775808) 9223372036854775807)])⟩] (.bool (.lit true)) [none] := by
  refine RunsTo.go env Try.func11 rfl Try.call11 rfl rfl (fun _ _ => (.callF (c_l_szSegmentS P Q R S n 1048576) (.ite .ret (.callF (c_l_toSegmentS P Q R S n) (.call (c_s_IsDrawing P Q R S n) (.callF (c_l_toSegmentS P Q R S n) (.call (c_i_IsDrawing P Q R S n) (.ite .ret (.callF (c_l_toSegmentS P Q R S n) (.call (c_l_eqSegmentS P Q R S n P Q R S n) (.ite .ret .ret))))))))))) (G := (0 ≤ n ∧ n ≤ 9223372036854775807) → (∀ e9 : E, ((0 ≤ e9.den ∧ e9.den < n) → (((-9223372036854775808) ≤ ((P (e9.den))) ∧ ((P (e9.den))) ≤ 9223372036854775807) ∧ (((-9223372036854775808) ≤ ((Q (e9.den))) ∧ ((Q (e9.den))) ≤ 9223372036854775807) ∧ (((-9223372036854775808) ≤ ((R (e9.den))) ∧ ((R (e9.den))) ≤ 9223372036854775807) ∧ ((-9223372036854775808) ≤ ((S (e9.den))) ∧ ((S (e9.den))) ≤ 9223372036854775807)))))) → (((n = n) ∧ ((1048576 : Int) = 1048576)) ∧ (((n ≤ n) ∧ (∀ e1 : E, ((0 ≤ e1.den ∧ e1.den < n) → ((((P (e1.den))) = ((P (e1.den)))) ∧ ((((Q (e1.den))) = ((Q (e1.den)))) ∧ ((((R (e1.den))) = ((R (e1.den)))) ∧ (((S (e1.den))) = ((S (e1.den)))))))))) ∧ (((-1) ≤ (if 1048576 - n < 0 then -1 else 1048576 - n) ∧ (if 1048576 - n < 0 then -1 else 1048576 - n) ≤ 1048576) → ((0 ≤ (if 1048576 - n < 0 then -1 else 1048576 - n)) → (((n = n) ∧ ((n ≤ 9223372036854775807) → (n ≤ 1048576))) ∧ (((n ≤ n) ∧ (∀ e2 : E, ((0 ≤ e2.den ∧ e2.den < n) → ((((P (e2.den))) = ((P (e2.den)))) ∧ ((((Q (e2.den))) = ((Q (e2.den)))) ∧ ((((R (e2.den))) = ((R (e2.den)))) ∧ (((S (e2.den))) = ((S (e2.den)))))))))) ∧ ((0 ≤ n ∧ n ≤ 1048576) → ((n = n) ∧ (((n ≤ n) ∧ (∀ e3 : E, ((0 ≤ e3.den ∧ e3.den < n) → ((((P (e3.den))) = ((P (e3.den)))) ∧ ((((Q (e3.den))) = ((Q (e3.den)))) ∧ ((((R (e3.den))) = ((R (e3.den)))) ∧ (((S (e3.den))) = ((S (e3.den)))))))))) ∧ (((n = n) ∧ ((n ≤ 9223372036854775807) → (n ≤ 1048576))) ∧ (((n ≤ n) ∧ (∀ e4 : E, ((0 ≤ e4.den ∧ e4.den < n) → ((((P (e4.den))) = ((P (e4.den)))) ∧ ((((Q (e4.den))) = ((Q (e4.den)))) ∧ ((((R (e4.den))) = ((R (e4.den)))) ∧ (((S (e4.den))) = ((S (e4.den)))))))))) ∧ ((0 ≤ n ∧ n ≤ 1048576) → ((n = n) ∧ (((n ≤ n) ∧ (∀ e5 : E, ((0 ≤ e5.den ∧ e5.den < n) → ((((P (e5.den))) = ((P (e5.den)))) ∧ ((((Q (e5.den))) = ((Q (e5.den)))) ∧ ((((R (e5.den))) = ((R (e5.den)))) ∧ (((S (e5.den))) = ((S (e5.den)))))))))) ∧ ((((((dwB P Q R S n) = true) ↔ ((dwB P Q R S n) = false))) → (False)) ∧ (((((dwB P Q R S n) = true) ↔ ((dwB P Q R S n) = true))) → (((n = n) ∧ ((n ≤ 9223372036854775807) → (n ≤ 1048576))) ∧ (((n ≤ n) ∧ (∀ e6 : E, ((0 ≤ e6.den ∧ e6.den < n) → ((((P (e6.den))) = ((P (e6.den)))) ∧ ((((Q (e6.den))) = ((Q (e6.den)))) ∧ ((((R (e6.den))) = ((R (e6.den)))) ∧ (((S (e6.den))) = ((S (e6.den)))))))))) ∧ ((0 ≤ n ∧ n ≤ 1048576) → (((n = n) ∧ (n = n)) ∧ ((((n ≤ n) ∧ (∀ e8 : E, ((0 ≤ e8.den ∧ e8.den < n) → ((((P (e8.den))) = ((P (e8.den)))) ∧ ((((Q (e8.den))) = ((Q (e8.den)))) ∧ ((((R (e8.den))) = ((R (e8.den)))) ∧ (((S (e8.den))) = ((S (e8.den)))))))))) ∧ ((n ≤ n) ∧ (∀ e7 : E, ((0 ≤ e7.den ∧ e7.den < n) → ((((P (e7.den))) = ((P (e7.den)))) ∧ ((((Q (e7.den))) = ((Q (e7.den)))) ∧ ((((R (e7.den))) = ((R (e7.den)))) ∧ (((S (e7.den))) = ((S (e7.den))))))))))) ∧ (((eqS P Q R S n P Q R S n) = false) → (False)))))))))))))))))))))))) (by kernel_rfl) ?_
  intro h1 h2
  refine ⟨⟨rfl, rfl⟩, ⟨Int.le_refl _, fun _ => fun _ => ⟨rfl, ⟨rfl, ⟨rfl, rfl⟩⟩⟩⟩, ?_⟩
  intro c10
  intro c11
  refine ⟨?_, ⟨Int.le_refl _, fun _ => fun _ => ⟨rfl, ⟨rfl, ⟨rfl, rfl⟩⟩⟩⟩, ?_⟩
  · refine ⟨rfl, ?_⟩
    intro c12
    -- 1: n ≤ 1048576
    first | rfl | omega | exact eqS_refl _ _ _ _ _ | (simp_all [eqS_refl]; done) | (simp_all [eqS_refl]; omega) | fail
  · intro c13
    refine ⟨rfl, ⟨Int.le_refl _, fun _ => fun _ => ⟨rfl, ⟨rfl, ⟨rfl, rfl⟩⟩⟩⟩, ?_, ⟨Int.le_refl _, fun _ => fun _ => ⟨rfl, ⟨rfl, ⟨rfl, rfl⟩⟩⟩⟩, ?_⟩
    · refine ⟨rfl, ?_⟩
      intro c14
      -- 2: n ≤ 1048576
      first | rfl | omega | exact eqS_refl _ _ _ _ _ | (simp_all [eqS_refl]; done) | (simp_all [eqS_refl]; omega) | fail
    · intro c15
      refine ⟨rfl, ⟨Int.le_refl _, fun _ => fun _ => ⟨rfl, ⟨rfl, ⟨rfl, rfl⟩⟩⟩⟩, ?_, ?_⟩
      · intro c16
        -- 3: False
        first | rfl | omega | exact eqS_refl _ _ _ _ _ | (simp_all [eqS_refl]; done) | (simp_all [eqS_refl]; omega) | fail
      · intro c17
        refine ⟨?_, ⟨Int.le_refl _, fun _ => fun _ => ⟨rfl, ⟨rfl, ⟨rfl, rfl⟩⟩⟩⟩, ?_⟩
        · refine ⟨rfl, ?_⟩
          intro c18
          -- 4: n ≤ 1048576
          first | rfl | omega | exact eqS_refl _ _ _ _ _ | (simp_all [eqS_refl]; done) | (simp_all [eqS_refl]; omega) | fail
        · intro c19
          refine ⟨⟨rfl, rfl⟩, ⟨⟨Int.le_refl _, fun _ => fun _ => ⟨rfl, ⟨rfl, ⟨rfl, rfl⟩⟩⟩⟩, ⟨Int.le_refl _, fun _ => fun _ => ⟨rfl, ⟨rfl, ⟨rfl, rfl⟩⟩⟩⟩⟩, ?_⟩
          intro c20
          -- 5: False
          first | rfl | omega | exact eqS_refl _ _ _ _ _ | (simp_all [eqS_refl]; done) | (simp_all [eqS_refl]; omega) | fail
def c_l_FnExactIsDrawing (P : Int → Int) (Q : Int → Int) (R : Int → Int) (S : Int → Int) (n : Int) : Cn Try.prog := ⟨_, _, _, _, _, l_FnExactIsDrawing P Q R S n⟩
end Go.Proofs.Ytoielngedkbmbaa
