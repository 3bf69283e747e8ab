/- Orientation, moved points. -/
import Derived.Test.YtpnjopppclmfkaaK2
import Derived.Test.YtpnjopppclmfkaaR3
set_option linter.unusedSimpArgs false
set_option linter.unusedVariables false
set_option maxRecDepth 100000
namespace Go.Proofs.Ytpnjopppclmfkaa
open Go.Sym
theorem allB2 (q : Int → Bool) : allB q 2 = (q 0 && q 1) := by simp [allB, List.range_succ]
theorem allB3 (q : Int → Bool) : allB q 3 = (q 0 && (q 1 && q 2)) := by simp [allB, List.range_succ]
def ornt (aX aY bX bY cX cY : Int) : Int := if okP aX aY && okP bX bY && okP cX cY then sgn (trn aX aY bX bY cX cY) else 2
def crss (aX aY bX bY cX cY : Int) : Int := if okP aX aY && okP bX bY && okP cX cY then trn aX aY bX bY cX cY else 0
def in9 (x y : Int) : Bool := decide (x ≤ 900) && decide (-900 ≤ x) && decide (y ≤ 900) && decide (-900 ≤ y)
theorem in9_iff {x y : Int} : in9 x y = true ↔ x ≤ 900 ∧ -900 ≤ x ∧ y ≤ 900 ∧ -900 ≤ y := by unfold in9; simp [and_assoc]
theorem i_Orient (aX : Int) (aY : Int) (bX : Int) (bY : Int) (cX : Int) (cY : Int) : RunsTo Try.prog 25 [(.agg [(.int .i64 (.v fun _ => aX) (-9223372036854775808) 9223372036854775807), (.int .i64 (.v fun _ => aY) (-9223372036854775808) 9223372036854775807)]), (.agg [(.int .i64 (.v fun _ => bX) (-9223372036854775808) 9223372036854775807), (.int .i64 (.v fun _ => bY) (-9223372036854775808) 9223372036854775807)]), (.agg [(.int .i64 (.v fun _ => cX) (-9223372036854775808) 9223372036854775807), (.int .i64 (.v fun _ => cY) (-9223372036854775808) 9223372036854775807)])] [] (.int .i64 (.v fun _ => ornt aX aY bX bY cX cY) (-1) 2) [] := by
  refine RunsTo.go env Try.func25 rfl Try.call25 rfl rfl (fun _ _ => (.call (c_i_allValid (selL [aX, bX, cX]) (selL [aY, bY, cY]) 3) (.ite .ret (.call (c_i_turn aX aY bX bY cX cY) (.call (c_i_sign (trn aX aY bX bY cX cY)) .ret))))) (G := ((((-9223372036854775808) ≤ aX ∧ aX ≤ 9223372036854775807) ∧ ((-9223372036854775808) ≤ aY ∧ aY ≤ 9223372036854775807)) ∧ ((((-9223372036854775808) ≤ bX ∧ bX ≤ 9223372036854775807) ∧ ((-9223372036854775808) ≤ bY ∧ bY ≤ 9223372036854775807)) ∧ (((-9223372036854775808) ≤ cX ∧ cX ≤ 9223372036854775807) ∧ ((-9223372036854775808) ≤ cY ∧ cY ≤ 9223372036854775807)))) → (True) → (((3 : Int) = 3) ∧ ((((3 : Int) = 3) ∧ ((∀ e3 : E, ((e3.den = 0) → ((aX = (selL [aX, bX, cX] (e3.den))) ∧ (aY = (selL [aY, bY, cY] (e3.den)))))) ∧ ((∀ e2 : E, ((e2.den = 1) → ((bX = (selL [aX, bX, cX] (e2.den))) ∧ (bY = (selL [aY, bY, cY] (e2.den)))))) ∧ (∀ e1 : E, ((e1.den = 2) → ((cX = (selL [aX, bX, cX] (e1.den))) ∧ (cY = (selL [aY, bY, cY] (e1.den))))))))) ∧ ((((allB (fun i => okP (selL [aX, bX, cX] i) (selL [aY, bY, cY] i)) 3) = false) → ((2 : Int) = (ornt aX aY bX bY cX cY))) ∧ (((allB (fun i => okP (selL [aX, bX, cX] i) (selL [aY, bY, cY] i)) 3) = true) → (((((aX = aX) ∧ (((-9223372036854775808) ≤ aX ∧ aX ≤ 9223372036854775807) → ((-4000) ≤ aX ∧ aX ≤ 4000))) ∧ ((aY = aY) ∧ (((-9223372036854775808) ≤ aY ∧ aY ≤ 9223372036854775807) → ((-4000) ≤ aY ∧ aY ≤ 4000)))) ∧ ((((bX = bX) ∧ (((-9223372036854775808) ≤ bX ∧ bX ≤ 9223372036854775807) → ((-4000) ≤ bX ∧ bX ≤ 4000))) ∧ ((bY = bY) ∧ (((-9223372036854775808) ≤ bY ∧ bY ≤ 9223372036854775807) → ((-4000) ≤ bY ∧ bY ≤ 4000)))) ∧ (((cX = cX) ∧ (((-9223372036854775808) ≤ cX ∧ cX ≤ 9223372036854775807) → ((-4000) ≤ cX ∧ cX ≤ 4000))) ∧ ((cY = cY) ∧ (((-9223372036854775808) ≤ cY ∧ cY ≤ 9223372036854775807) → ((-4000) ≤ cY ∧ cY ≤ 4000)))))) ∧ (((trn aX aY bX bY cX cY) = (trn aX aY bX bY cX cY)) ∧ ((sgn (trn aX aY bX bY cX cY)) = (ornt aX aY bX bY cX cY))))))))) (by kernel_rfl) ?_
  intro h1 h2
  refine ⟨rfl, ?_, ?_, ?_⟩
  · refine ⟨rfl, ?_, ?_, ?_⟩
    · intro e3
      intro c4
      refine ⟨?_, ?_⟩
        -- 1: aX = (selL [aX, bX, cX] (e3.den))
      · first | rfl | omega | (intro h; simp [h]; done) | (simp_all [allB3, okP_iff, selL]; omega) | (simp_all [ornt, crss, allB3, selL]; done) | (simp_all [selL]; done)
        -- 2: aY = (selL [aY, bY, cY] (e3.den))
      · first | rfl | omega | (intro h; simp [h]; done) | (simp_all [allB3, okP_iff, selL]; omega) | (simp_all [ornt, crss, allB3, selL]; done) | (simp_all [selL]; done)
    · intro e2
      intro c5
      refine ⟨?_, ?_⟩
        -- 3: bX = (selL [aX, bX, cX] (e2.den))
      · first | rfl | omega | (intro h; simp [h]; done) | (simp_all [allB3, okP_iff, selL]; omega) | (simp_all [ornt, crss, allB3, selL]; done) | (simp_all [selL]; done)
        -- 4: bY = (selL [aY, bY, cY] (e2.den))
      · first | rfl | omega | (intro h; simp [h]; done) | (simp_all [allB3, okP_iff, selL]; omega) | (simp_all [ornt, crss, allB3, selL]; done) | (simp_all [selL]; done)
    · intro e1
      intro c6
      refine ⟨?_, ?_⟩
        -- 5: cX = (selL [aX, bX, cX] (e1.den))
      · first | rfl | omega | (intro h; simp [h]; done) | (simp_all [allB3, okP_iff, selL]; omega) | (simp_all [ornt, crss, allB3, selL]; done) | (simp_all [selL]; done)
        -- 6: cY = (selL [aY, bY, cY] (e1.den))
      · first | rfl | omega | (intro h; simp [h]; done) | (simp_all [allB3, okP_iff, selL]; omega) | (simp_all [ornt, crss, allB3, selL]; done) | (simp_all [selL]; done)
  · intro c7
    -- 7: (2 : Int) = (ornt aX aY bX bY cX cY)
    first | rfl | omega | (intro h; simp [h]; done) | (simp_all [allB3, okP_iff, selL]; omega) | (simp_all [ornt, crss, allB3, selL]; done) | (simp_all [selL]; done)
  · intro c8
    refine ⟨?_, rfl, ?_⟩
    · refine ⟨?_, ?_, ?_, rfl, ?_⟩
      · refine ⟨?_, rfl, ?_⟩
        · refine ⟨rfl, ?_⟩
          intro c9
          -- 8: (-4000) ≤ aX ∧ aX ≤ 4000
          first | rfl | omega | (intro h; simp [h]; done) | (simp_all [allB3, okP_iff, selL]; omega) | (simp_all [ornt, crss, allB3, selL]; done) | (simp_all [selL]; done)
        · intro c10
          -- 9: (-4000) ≤ aY ∧ aY ≤ 4000
          first | rfl | omega | (intro h; simp [h]; done) | (simp_all [allB3, okP_iff, selL]; omega) | (simp_all [ornt, crss, allB3, selL]; done) | (simp_all [selL]; done)
      · refine ⟨?_, rfl, ?_⟩
        · refine ⟨rfl, ?_⟩
          intro c11
          -- 10: (-4000) ≤ bX ∧ bX ≤ 4000
          first | rfl | omega | (intro h; simp [h]; done) | (simp_all [allB3, okP_iff, selL]; omega) | (simp_all [ornt, crss, allB3, selL]; done) | (simp_all [selL]; done)
        · intro c12
          -- 11: (-4000) ≤ bY ∧ bY ≤ 4000
          first | rfl | omega | (intro h; simp [h]; done) | (simp_all [allB3, okP_iff, selL]; omega) | (simp_all [ornt, crss, allB3, selL]; done) | (simp_all [selL]; done)
      · refine ⟨rfl, ?_⟩
        intro c13
        -- 12: (-4000) ≤ cX ∧ cX ≤ 4000
        first | rfl | omega | (intro h; simp [h]; done) | (simp_all [allB3, okP_iff, selL]; omega) | (simp_all [ornt, crss, allB3, selL]; done) | (simp_all [selL]; done)
      · intro c14
        -- 13: (-4000) ≤ cY ∧ cY ≤ 4000
        first | rfl | omega | (intro h; simp [h]; done) | (simp_all [allB3, okP_iff, selL]; omega) | (simp_all [ornt, crss, allB3, selL]; done) | (simp_all [selL]; done)
      -- 14: (sgn (trn aX aY bX bY cX cY)) = (ornt aX aY bX bY cX cY)
    · first | rfl | omega | (intro h; simp [h]; done) | (simp_all [allB3, okP_iff, selL]; omega) | (simp_all [ornt, crss, allB3, selL]; done) | (simp_all [selL]; done)
def c_i_Orient (aX : Int) (aY : Int) (bX : Int) (bY : Int) (cX : Int) (cY : Int) : Cn Try.prog := ⟨_, _, _, _, _, i_Orient aX aY bX bY cX cY⟩
def q1 (C : Int → Int) (n : Int) : Int := apP C (cut n) 0
def q2 (C : Int → Int) (n : Int) : Int := apP C (cut n) (q1 C n)
end Go.Proofs.Ytpnjopppclmfkaa
