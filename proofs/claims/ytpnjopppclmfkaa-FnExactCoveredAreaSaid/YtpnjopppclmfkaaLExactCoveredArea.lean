/- FnExactCoveredArea: the walk. -/
import Derived.Test.YtpnjopppclmfkaaK36
set_option linter.unusedSimpArgs false
set_option linter.unusedVariables false
set_option maxRecDepth 100000
namespace Go.Proofs.Ytpnjopppclmfkaa
open Go.Sym
theorem l_FnExactCoveredArea (A : Int → Int) (B : Int → Int) (D : Int → Int) (F : Int → Int) (n : Int) (d : Int) : RunsTo Try.prog 8 [(.sl 0 4 (.lit 0) (.v fun _ => n) 9223372036854775807), (.int .i64 (.v fun _ => d) (-9223372036854775808) 9223372036854775807)] [some ⟨84, 4, false, (.sym (.v fun _ => n) fun e => [(.int .i64 (.v fun _ => (A (e.den))) (-9223372036854775808) 9223372036854775807), (.int .i64 (.v fun _ => (B (e.den))) (-9223372036854775808) 9223372036854775807), (.int .i64 (.v fun _ => (D (e.den))) (-9223372036854775808) 9223372036854775807), (.int .i64 (.v fun _ => (F (e.den))) (-9223372036854775808) 9223372036854775807)])⟩] (.bool (.lit true)) [none] := by
  refine RunsTo.go env Try.func8 rfl Try.call8 rfl rfl (fun _ _ => (.callF (c_l_szRectS A B D F n 1048576) (.ite .ret (.callF (c_l_toRectS A B D F n) (.callF (c_s_CoveredArea A B D F n d) (.callF (c_l_toRectS A B D F n) (.callF (c_i_CoveredArea A B D F n d) (.ite .ret (.callF (c_l_toRectS A B D F n) (.call (c_l_eqRectS A B D F n A B D F n) (.ite .ret .ret))))))))))) (G := ((0 ≤ n ∧ n ≤ 9223372036854775807) ∧ ((-9223372036854775808) ≤ d ∧ d ≤ 9223372036854775807)) → (∀ e9 : E, ((0 ≤ e9.den ∧ e9.den < n) → (((-9223372036854775808) ≤ ((A (e9.den))) ∧ ((A (e9.den))) ≤ 9223372036854775807) ∧ (((-9223372036854775808) ≤ ((B (e9.den))) ∧ ((B (e9.den))) ≤ 9223372036854775807) ∧ (((-9223372036854775808) ≤ ((D (e9.den))) ∧ ((D (e9.den))) ≤ 9223372036854775807) ∧ ((-9223372036854775808) ≤ ((F (e9.den))) ∧ ((F (e9.den))) ≤ 9223372036854775807)))))) → (((n = n) ∧ ((1048576 : Int) = 1048576)) ∧ (((n ≤ n) ∧ (∀ e1 : E, ((0 ≤ e1.den ∧ e1.den < n) → ((((A (e1.den))) = ((A (e1.den)))) ∧ ((((B (e1.den))) = ((B (e1.den)))) ∧ ((((D (e1.den))) = ((D (e1.den)))) ∧ (((F (e1.den))) = ((F (e1.den)))))))))) ∧ (((-1) ≤ (if 1048576 - n < 0 then -1 else 1048576 - n) ∧ (if 1048576 - n < 0 then -1 else 1048576 - n) ≤ 1048576) → ((0 ≤ (if 1048576 - n < 0 then -1 else 1048576 - n)) → (((n = n) ∧ ((n ≤ 9223372036854775807) → (n ≤ 1048576))) ∧ (((n ≤ n) ∧ (∀ e2 : E, ((0 ≤ e2.den ∧ e2.den < n) → ((((A (e2.den))) = ((A (e2.den)))) ∧ ((((B (e2.den))) = ((B (e2.den)))) ∧ ((((D (e2.den))) = ((D (e2.den)))) ∧ (((F (e2.den))) = ((F (e2.den)))))))))) ∧ ((0 ≤ n ∧ n ≤ 1048576) → (((n = n) ∧ (d = d)) ∧ (((n ≤ n) ∧ (∀ e3 : E, ((0 ≤ e3.den ∧ e3.den < n) → ((((A (e3.den))) = ((A (e3.den)))) ∧ ((((B (e3.den))) = ((B (e3.den)))) ∧ ((((D (e3.den))) = ((D (e3.den)))) ∧ (((F (e3.den))) = ((F (e3.den)))))))))) ∧ (((-1) ≤ (cov A B D F n d) ∧ (cov A B D F n d) ≤ 4000000) → (((n = n) ∧ ((n ≤ 9223372036854775807) → (n ≤ 1048576))) ∧ (((n ≤ n) ∧ (∀ e4 : E, ((0 ≤ e4.den ∧ e4.den < n) → ((((A (e4.den))) = ((A (e4.den)))) ∧ ((((B (e4.den))) = ((B (e4.den)))) ∧ ((((D (e4.den))) = ((D (e4.den)))) ∧ (((F (e4.den))) = ((F (e4.den)))))))))) ∧ ((0 ≤ n ∧ n ≤ 1048576) → (((n = n) ∧ (d = d)) ∧ (((n ≤ n) ∧ (∀ e5 : E, ((0 ≤ e5.den ∧ e5.den < n) → ((((A (e5.den))) = ((A (e5.den)))) ∧ ((((B (e5.den))) = ((B (e5.den)))) ∧ ((((D (e5.den))) = ((D (e5.den)))) ∧ (((F (e5.den))) = ((F (e5.den)))))))))) ∧ (((-1) ≤ (cov A B D F n d) ∧ (cov A B D F n d) ≤ 4000000) → ((((cov A B D F n d) ≠ (cov A B D F n d)) → (False)) ∧ (((cov A B D F n d) = (cov A B D F n d)) → (((n = n) ∧ ((n ≤ 9223372036854775807) → (n ≤ 1048576))) ∧ (((n ≤ n) ∧ (∀ e6 : E, ((0 ≤ e6.den ∧ e6.den < n) → ((((A (e6.den))) = ((A (e6.den)))) ∧ ((((B (e6.den))) = ((B (e6.den)))) ∧ ((((D (e6.den))) = ((D (e6.den)))) ∧ (((F (e6.den))) = ((F (e6.den)))))))))) ∧ ((0 ≤ n ∧ n ≤ 1048576) → (((n = n) ∧ (n = n)) ∧ ((((n ≤ n) ∧ (∀ e8 : E, ((0 ≤ e8.den ∧ e8.den < n) → ((((A (e8.den))) = ((A (e8.den)))) ∧ ((((B (e8.den))) = ((B (e8.den)))) ∧ ((((D (e8.den))) = ((D (e8.den)))) ∧ (((F (e8.den))) = ((F (e8.den)))))))))) ∧ ((n ≤ n) ∧ (∀ e7 : E, ((0 ≤ e7.den ∧ e7.den < n) → ((((A (e7.den))) = ((A (e7.den)))) ∧ ((((B (e7.den))) = ((B (e7.den)))) ∧ ((((D (e7.den))) = ((D (e7.den)))) ∧ (((F (e7.den))) = ((F (e7.den))))))))))) ∧ (((eqR A B D F n A B D F n) = false) → (False)))))))))))))))))))))))))) (by kernel_rfl) ?_
  intro h1 h2
  refine ⟨⟨rfl, rfl⟩, ⟨Int.le_refl _, fun _ => fun _ => ⟨rfl, ⟨rfl, ⟨rfl, rfl⟩⟩⟩⟩, ?_⟩
  intro c10
  intro c11
  refine ⟨?_, ⟨Int.le_refl _, fun _ => fun _ => ⟨rfl, ⟨rfl, ⟨rfl, rfl⟩⟩⟩⟩, ?_⟩
  · refine ⟨rfl, ?_⟩
    intro c12
    -- 1: n ≤ 1048576
    first | omega | rfl | exact eqR_refl _ _ _ _ _ | (simp_all [eqR_refl]; done) | (simp_all [eqR_refl]; omega) | fail
  · intro c13
    refine ⟨⟨rfl, rfl⟩, ⟨Int.le_refl _, fun _ => fun _ => ⟨rfl, ⟨rfl, ⟨rfl, rfl⟩⟩⟩⟩, ?_⟩
    intro c14
    refine ⟨?_, ⟨Int.le_refl _, fun _ => fun _ => ⟨rfl, ⟨rfl, ⟨rfl, rfl⟩⟩⟩⟩, ?_⟩
    · refine ⟨rfl, ?_⟩
      intro c15
      -- 2: n ≤ 1048576
      first | omega | rfl | exact eqR_refl _ _ _ _ _ | (simp_all [eqR_refl]; done) | (simp_all [eqR_refl]; omega) | fail
    · intro c16
      refine ⟨⟨rfl, rfl⟩, ⟨Int.le_refl _, fun _ => fun _ => ⟨rfl, ⟨rfl, ⟨rfl, rfl⟩⟩⟩⟩, ?_⟩
      intro c17
      refine ⟨?_, ?_⟩
      · intro c18
        -- 3: False
        first | omega | rfl | exact eqR_refl _ _ _ _ _ | (simp_all [eqR_refl]; done) | (simp_all [eqR_refl]; omega) | fail
      · intro c19
        refine ⟨?_, ⟨Int.le_refl _, fun _ => fun _ => ⟨rfl, ⟨rfl, ⟨rfl, rfl⟩⟩⟩⟩, ?_⟩
        · refine ⟨rfl, ?_⟩
          intro c20
          -- 4: n ≤ 1048576
          first | omega | rfl | exact eqR_refl _ _ _ _ _ | (simp_all [eqR_refl]; done) | (simp_all [eqR_refl]; omega) | fail
        · intro c21
          refine ⟨⟨rfl, rfl⟩, ⟨⟨Int.le_refl _, fun _ => fun _ => ⟨rfl, ⟨rfl, ⟨rfl, rfl⟩⟩⟩⟩, ⟨Int.le_refl _, fun _ => fun _ => ⟨rfl, ⟨rfl, ⟨rfl, rfl⟩⟩⟩⟩⟩, ?_⟩
          intro c22
          -- 5: False
          first | omega | rfl | exact eqR_refl _ _ _ _ _ | (simp_all [eqR_refl]; done) | (simp_all [eqR_refl]; omega) | fail
def c_l_FnExactCoveredArea (A : Int → Int) (B : Int → Int) (D : Int → Int) (F : Int → Int) (n : Int) (d : Int) : Cn Try.prog := ⟨_, _, _, _, _, l_FnExactCoveredArea A B D F n d⟩
end Go.Proofs.Ytpnjopppclmfkaa
