/- Orientation, moved points. -/
import Derived.Test.YtefikodgmhlfnaaK2
import Derived.Test.YtefikodgmhlfnaaR3
set_option linter.unusedSimpArgs false
set_option linter.unusedVariables false
set_option maxRecDepth 100000
namespace Go.Proofs.Ytefikodgmhlfnaa
open Go.Sym
theorem allB2 (q : Int → Bool) : allB q 2 = (q 0 && q 1) := by simp [allB, List.range_succ]
theorem allB3 (q : Int → Bool) : allB q 3 = (q 0 && (q 1 && q 2)) := by simp [allB, List.range_succ]
def ornt (aX aY bX bY cX cY : Int) : Int := if okP aX aY && okP bX bY && okP cX cY then sgn (trn aX aY bX bY cX cY) else 2
def crss (aX aY bX bY cX cY : Int) : Int := if okP aX aY && okP bX bY && okP cX cY then trn aX aY bX bY cX cY else 0
def in9 (x y : Int) : Bool := decide (x ≤ 900) && decide (-900 ≤ x) && decide (y ≤ 900) && decide (-900 ≤ y)
theorem in9_iff {x y : Int} : in9 x y = true ↔ x ≤ 900 ∧ -900 ≤ x ∧ y ≤ 900 ∧ -900 ≤ y := by unfold in9; simp [and_assoc]
theorem s_Orient (aX : Int) (aY : Int) (bX : Int) (bY : Int) (cX : Int) (cY : Int) : RunsTo Try.prog 13 [(.agg [(.int .i64 (.v fun _ => aX) (-9223372036854775808) 9223372036854775807), (.int .i64 (.v fun _ => aY) (-9223372036854775808) 9223372036854775807)]), (.agg [(.int .i64 (.v fun _ => bX) (-9223372036854775808) 9223372036854775807), (.int .i64 (.v fun _ => bY) (-9223372036854775808) 9223372036854775807)]), (.agg [(.int .i64 (.v fun _ => cX) (-9223372036854775808) 9223372036854775807), (.int .i64 (.v fun _ => cY) (-9223372036854775808) 9223372036854775807)])] [] (.int .i64 (.v fun _ => ornt aX aY bX bY cX cY) (-1) 2) [] := by
  refine RunsTo.go env Try.func13 rfl Try.call13 rfl rfl (fun _ _ => (.call (c_s_validPoint aX aY) (.ite .ret (.call (c_s_validPoint bX bY) (.ite .ret (.call (c_s_validPoint cX cY) (.ite .ret (.call (c_s_cross aX aY bX bY cX cY) (.call (c_s_sign (trn aX aY bX bY cX cY)) .ret))))))))) (G := ((((-9223372036854775808) ≤ aX ∧ aX ≤ 9223372036854775807) ∧ ((-9223372036854775808) ≤ aY ∧ aY ≤ 9223372036854775807)) ∧ ((((-9223372036854775808) ≤ bX ∧ bX ≤ 9223372036854775807) ∧ ((-9223372036854775808) ≤ bY ∧ bY ≤ 9223372036854775807)) ∧ (((-9223372036854775808) ≤ cX ∧ cX ≤ 9223372036854775807) ∧ ((-9223372036854775808) ≤ cY ∧ cY ≤ 9223372036854775807)))) → (True) → (((aX = aX) ∧ (aY = aY)) ∧ ((((okP aX aY) = false) → ((2 : Int) = (ornt aX aY bX bY cX cY))) ∧ (((okP aX aY) = true) → (((bX = bX) ∧ (bY = bY)) ∧ ((((okP bX bY) = false) → ((2 : Int) = (ornt aX aY bX bY cX cY))) ∧ (((okP bX bY) = true) → (((cX = cX) ∧ (cY = cY)) ∧ ((((okP cX cY) = false) → ((2 : Int) = (ornt aX aY bX bY cX cY))) ∧ (((okP cX cY) = true) → (((((aX = aX) ∧ (((-9223372036854775808) ≤ aX ∧ aX ≤ 9223372036854775807) → ((-4000) ≤ aX ∧ aX ≤ 4000))) ∧ ((aY = aY) ∧ (((-9223372036854775808) ≤ aY ∧ aY ≤ 9223372036854775807) → ((-4000) ≤ aY ∧ aY ≤ 4000)))) ∧ ((((bX = bX) ∧ (((-9223372036854775808) ≤ bX ∧ bX ≤ 9223372036854775807) → ((-4000) ≤ bX ∧ bX ≤ 4000))) ∧ ((bY = bY) ∧ (((-9223372036854775808) ≤ bY ∧ bY ≤ 9223372036854775807) → ((-4000) ≤ bY ∧ bY ≤ 4000)))) ∧ (((cX = cX) ∧ (((-9223372036854775808) ≤ cX ∧ cX ≤ 9223372036854775807) → ((-4000) ≤ cX ∧ cX ≤ 4000))) ∧ ((cY = cY) ∧ (((-9223372036854775808) ≤ cY ∧ cY ≤ 9223372036854775807) → ((-4000) ≤ cY ∧ cY ≤ 4000)))))) ∧ (((trn aX aY bX bY cX cY) = (trn aX aY bX bY cX cY)) ∧ ((sgn (trn aX aY bX bY cX cY)) = (ornt aX aY bX bY cX cY)))))))))))))) (by kernel_rfl) ?_
  intro h1 h2
  refine ⟨⟨rfl, rfl⟩, ?_, ?_⟩
  · intro c1
    -- 1: (2 : Int) = (ornt aX aY bX bY cX cY)
    first | rfl | omega | (simp_all [okP_iff]; omega) | (simp_all [ornt]; done)
  · intro c2
    refine ⟨⟨rfl, rfl⟩, ?_, ?_⟩
    · intro c3
      -- 2: (2 : Int) = (ornt aX aY bX bY cX cY)
      first | rfl | omega | (simp_all [okP_iff]; omega) | (simp_all [ornt]; done)
    · intro c4
      refine ⟨⟨rfl, rfl⟩, ?_, ?_⟩
      · intro c5
        -- 3: (2 : Int) = (ornt aX aY bX bY cX cY)
        first | rfl | omega | (simp_all [okP_iff]; omega) | (simp_all [ornt]; done)
      · intro c6
        refine ⟨?_, rfl, ?_⟩
        · refine ⟨?_, ?_, ?_, rfl, ?_⟩
          · refine ⟨?_, rfl, ?_⟩
            · refine ⟨rfl, ?_⟩
              intro c7
              -- 4: (-4000) ≤ aX ∧ aX ≤ 4000
              first | rfl | omega | (simp_all [okP_iff]; omega) | (simp_all [ornt]; done)
            · intro c8
              -- 5: (-4000) ≤ aY ∧ aY ≤ 4000
              first | rfl | omega | (simp_all [okP_iff]; omega) | (simp_all [ornt]; done)
          · refine ⟨?_, rfl, ?_⟩
            · refine ⟨rfl, ?_⟩
              intro c9
              -- 6: (-4000) ≤ bX ∧ bX ≤ 4000
              first | rfl | omega | (simp_all [okP_iff]; omega) | (simp_all [ornt]; done)
            · intro c10
              -- 7: (-4000) ≤ bY ∧ bY ≤ 4000
              first | rfl | omega | (simp_all [okP_iff]; omega) | (simp_all [ornt]; done)
          · refine ⟨rfl, ?_⟩
            intro c11
            -- 8: (-4000) ≤ cX ∧ cX ≤ 4000
            first | rfl | omega | (simp_all [okP_iff]; omega) | (simp_all [ornt]; done)
          · intro c12
            -- 9: (-4000) ≤ cY ∧ cY ≤ 4000
            first | rfl | omega | (simp_all [okP_iff]; omega) | (simp_all [ornt]; done)
          -- 10: (sgn (trn aX aY bX bY cX cY)) = (ornt aX aY bX bY cX cY)
        · first | rfl | omega | (simp_all [okP_iff]; omega) | (simp_all [ornt]; done)
def c_s_Orient (aX : Int) (aY : Int) (bX : Int) (bY : Int) (cX : Int) (cY : Int) : Cn Try.prog := ⟨_, _, _, _, _, s_Orient aX aY bX bY cX cY⟩
def q1 (C : Int → Int) (n : Int) : Int := apP C (cut n) 0
def q2 (C : Int → Int) (n : Int) : Int := apP C (cut n) (q1 C n)
end Go.Proofs.Ytefikodgmhlfnaa
