/- Orientation, moved points. -/
import Derived.Test.YtheehhfmdmflmaaK2
import Derived.Test.YtheehhfmdmflmaaR3
set_option linter.unusedSimpArgs false
set_option linter.unusedVariables false
set_option maxRecDepth 100000
namespace Go.Proofs.Ytheehhfmdmflmaa
open Go.Sym
theorem allB2 (q : Int → Bool) : allB q 2 = (q 0 && q 1) := by simp [allB, List.range_succ]
theorem allB3 (q : Int → Bool) : allB q 3 = (q 0 && (q 1 && q 2)) := by simp [allB, List.range_succ]
def ornt (aX aY bX bY cX cY : Int) : Int := if okP aX aY && okP bX bY && okP cX cY then sgn (trn aX aY bX bY cX cY) else 2
def crss (aX aY bX bY cX cY : Int) : Int := if okP aX aY && okP bX bY && okP cX cY then trn aX aY bX bY cX cY else 0
def in9 (x y : Int) : Bool := decide (x ≤ 900) && decide (-900 ≤ x) && decide (y ≤ 900) && decide (-900 ≤ y)
theorem in9_iff {x y : Int} : in9 x y = true ↔ x ≤ 900 ∧ -900 ≤ x ∧ y ≤ 900 ∧ -900 ≤ y := by unfold in9; simp [and_assoc]
theorem i_Orient (aX : Int) (aY : Int) (bX : Int) (bY : Int) (cX : Int) (cY : Int) : RunsTo Try.prog 58 [(.agg [(.int .i64 (.v fun _ => aX) (-9223372036854775808) 9223372036854775807), (.int .i64 (.v fun _ => aY) (-9223372036854775808) 9223372036854775807)]), (.agg [(.int .i64 (.v fun _ => bX) (-9223372036854775808) 9223372036854775807), (.int .i64 (.v fun _ => bY) (-9223372036854775808) 9223372036854775807)]), (.agg [(.int .i64 (.v fun _ => cX) (-9223372036854775808) 9223372036854775807), (.int .i64 (.v fun _ => cY) (-9223372036854775808) 9223372036854775807)])] [] (.int .i64 (.v fun _ => ornt aX aY bX bY cX cY) (-1) 2) [] := by
  refine RunsTo.go env Try.func58 rfl Try.call58 rfl rfl (fun _ _ => (.call (c_i_allValid (selL [aX, bX, cX]) (selL [aY, bY, cY]) 3) (.ite .ret (.call (c_i_turn aX aY bX bY cX cY) (.call (c_i_sign (trn aX aY bX bY cX cY)) .ret))))) (G := ((((-9223372036854775808) ≤ aX ∧ aX ≤ 9223372036854775807) ∧ ((-9223372036854775808) ≤ aY ∧ aY ≤ 9223372036854775807)) ∧ ((((-9223372036854775808) ≤ bX ∧ bX ≤ 9223372036854775807) ∧ ((-9223372036854775808) ≤ bY ∧ bY ≤ 9223372036854775807)) ∧ (((-9223372036854775808) ≤ cX ∧ cX ≤ 9223372036854775807) ∧ ((-9223372036854775808) ≤ cY ∧ cY ≤ 9223372036854775807)))) → (True) → (((3 : Int) = 3) ∧ ((((3 : Int) = 3) ∧ ((∀ e3 : E, ((e3.den = 0) → ((aX = (selL [aX, bX, cX] (e3.den))) ∧ (aY = (selL [aY, bY, cY] (e3.den)))))) ∧ ((∀ e2 : E, ((e2.den = 1) → ((bX = (selL [aX, bX, cX] (e2.den))) ∧ (bY = (selL [aY, bY, cY] (e2.den)))))) ∧ (∀ e1 : E, ((e1.den = 2) → ((cX = (selL [aX, bX, cX] (e1.den))) ∧ (cY = (selL [aY, bY, cY] (e1.den))))))))) ∧ ((((allB (fun i => okP (selL [aX, bX, cX] i) (selL [aY, bY, cY] i)) 3) = false) → ((2 : Int) = (ornt aX aY bX bY cX cY))) ∧ (((allB (fun i => okP (selL [aX, bX, cX] i) (selL [aY, bY, cY] i)) 3) = true) → (((((aX = aX) ∧ (((-9223372036854775808) ≤ aX ∧ aX ≤ 9223372036854775807) → ((-4000) ≤ aX ∧ aX ≤ 4000))) ∧ ((aY = aY) ∧ (((-9223372036854775808) ≤ aY ∧ aY ≤ 9223372036854775807) → ((-4000) ≤ aY ∧ aY ≤ 4000)))) ∧ ((((bX = bX) ∧ (((-9223372036854775808) ≤ bX ∧ bX ≤ 9223372036854775807) → ((-4000) ≤ bX ∧ bX ≤ 4000))) ∧ ((bY = bY) ∧ (((-9223372036854775808) ≤ bY ∧ bY ≤ 9223372036854775807) → ((-4000) ≤ bY ∧ bY ≤ 4000)))) ∧ (((cX = cX) ∧ (((-9223372036854775808) ≤ cX ∧ cX ≤ 9223372036854775807) → ((-4000) ≤ cX ∧ cX ≤ 4000))) ∧ ((cY = cY) ∧ (((-9223372036854775808) ≤ cY ∧ cY ≤ 9223372036854775807) → ((-4000) ≤ cY ∧ cY ≤ 4000)))))) ∧ (((trn aX aY bX bY cX cY) = (trn aX aY bX bY cX cY)) ∧ ((sgn (trn aX aY bX bY cX cY)) = (ornt aX aY bX bY cX cY))))))))) (by kernel_rfl) ?_
  intro h1 h2
  refine ⟨rfl, ?_, ?_, ?_⟩
  · refine ⟨rfl, ?_, ?_, ?_⟩
    · intro e3
      intro c4
      refine ⟨?_, ?_⟩
        -- 1: aX = (selL [aX, bX, cX] (e3.den))
      · first | rfl | omega | (intro h; simp [h]; done) | (simp_all [allB3, okP_iff, selL]; omega) | (simp_all [ornt, crss, allB3, selL]; done) | (simp_all [selL]; done)
        -- 2: aY = (selL [aY, bY, cY] (e3.den))
      · first | rfl | omega | (intro h; simp [h]; done) | (simp_all [allB3, okP_iff, selL]; omega) | (simp_all [ornt, crss, allB3, selL]; done) | (simp_all [selL]; done)
    · intro e2
      intro c5
      refine ⟨?_, ?_⟩
        -- 3: bX = (selL [aX, bX, cX] (e2.den))
      · first | rfl | omega | (intro h; simp [h]; done) | (simp_all [allB3, okP_iff, selL]; omega) | (simp_all [ornt, crss, allB3, selL]; done) | (simp_all [selL]; done)
        -- 4: bY = (selL [aY, bY, cY] (e2.den))
      · first | rfl | omega | (intro h; simp [h]; done) | (simp_all [allB3, okP_iff, selL]; omega) | (simp_all [ornt, crss, allB3, selL]; done) | (simp_all [selL]; done)
    · intro e1
      intro c6
      refine ⟨?_, ?_⟩
        -- 5: cX = (selL [aX, bX, cX] (e1.den))
      · first | rfl | omega | (intro h; simp [h]; done) | (simp_all [allB3, okP_iff, selL]; omega) | (simp_all [ornt, crss, allB3, selL]; done) | (simp_all [selL]; done)
        -- 6: cY = (selL [aY, bY, cY] (e1.den))
      · first | rfl | omega | (intro h; simp [h]; done) | (simp_all [allB3, okP_iff, selL]; omega) | (simp_all [ornt, crss, allB3, selL]; done) | (simp_all [selL]; done)
  · intro c7
    -- 7: (2 : Int) = (ornt aX aY bX bY cX cY)
    first | rfl | omega | (intro h; simp [h]; done) | (simp_all [allB3, okP_iff, selL]; omega) | (simp_all [ornt, crss, allB3, selL]; done) | (simp_all [selL]; done)
  · intro c8
    refine ⟨?_, rfl, ?_⟩
    · refine ⟨?_, ?_, ?_, rfl, ?_⟩
      · refine ⟨?_, rfl, ?_⟩
        · refine ⟨rfl, ?_⟩
          intro c9
          -- 8: (-4000) ≤ aX ∧ aX ≤ 4000
          first | rfl | omega | (intro h; simp [h]; done) | (simp_all [allB3, okP_iff, selL]; omega) | (simp_all [ornt, crss, allB3, selL]; done) | (simp_all [selL]; done)
        · intro c10
          -- 9: (-4000) ≤ aY ∧ aY ≤ 4000
          first | rfl | omega | (intro h; simp [h]; done) | (simp_all [allB3, okP_iff, selL]; omega) | (simp_all [ornt, crss, allB3, selL]; done) | (simp_all [selL]; done)
      · refine ⟨?_, rfl, ?_⟩
        · refine ⟨rfl, ?_⟩
          intro c11
          -- 10: (-4000) ≤ bX ∧ bX ≤ 4000
          first | rfl | omega | (intro h; simp [h]; done) | (simp_all [allB3, okP_iff, selL]; omega) | (simp_all [ornt, crss, allB3, selL]; done) | (simp_all [selL]; done)
        · intro c12
          -- 11: (-4000) ≤ bY ∧ bY ≤ 4000
          first | rfl | omega | (intro h; simp [h]; done) | (simp_all [allB3, okP_iff, selL]; omega) | (simp_all [ornt, crss, allB3, selL]; done) | (simp_all [selL]; done)
      · refine ⟨rfl, ?_⟩
        intro c13
        -- 12: (-4000) ≤ cX ∧ cX ≤ 4000
        first | rfl | omega | (intro h; simp [h]; done) | (simp_all [allB3, okP_iff, selL]; omega) | (simp_all [ornt, crss, allB3, selL]; done) | (simp_all [selL]; done)
      · intro c14
        -- 13: (-4000) ≤ cY ∧ cY ≤ 4000
        first | rfl | omega | (intro h; simp [h]; done) | (simp_all [allB3, okP_iff, selL]; omega) | (simp_all [ornt, crss, allB3, selL]; done) | (simp_all [selL]; done)
      -- 14: (sgn (trn aX aY bX bY cX cY)) = (ornt aX aY bX bY cX cY)
    · first | rfl | omega | (intro h; simp [h]; done) | (simp_all [allB3, okP_iff, selL]; omega) | (simp_all [ornt, crss, allB3, selL]; done) | (simp_all [selL]; done)
def c_i_Orient (aX : Int) (aY : Int) (bX : Int) (bY : Int) (cX : Int) (cY : Int) : Cn Try.prog := ⟨_, _, _, _, _, i_Orient aX aY bX bY cX cY⟩
theorem s_Orient (aX : Int) (aY : Int) (bX : Int) (bY : Int) (cX : Int) (cY : Int) : RunsTo Try.prog 76 [(.agg [(.int .i64 (.v fun _ => aX) (-9223372036854775808) 9223372036854775807), (.int .i64 (.v fun _ => aY) (-9223372036854775808) 9223372036854775807)]), (.agg [(.int .i64 (.v fun _ => bX) (-9223372036854775808) 9223372036854775807), (.int .i64 (.v fun _ => bY) (-9223372036854775808) 9223372036854775807)]), (.agg [(.int .i64 (.v fun _ => cX) (-9223372036854775808) 9223372036854775807), (.int .i64 (.v fun _ => cY) (-9223372036854775808) 9223372036854775807)])] [] (.int .i64 (.v fun _ => ornt aX aY bX bY cX cY) (-1) 2) [] := by
  refine RunsTo.go env Try.func76 rfl Try.call76 rfl rfl (fun _ _ => (.call (c_s_validPoint aX aY) (.ite .ret (.call (c_s_validPoint bX bY) (.ite .ret (.call (c_s_validPoint cX cY) (.ite .ret (.call (c_s_cross aX aY bX bY cX cY) (.call (c_s_sign (trn aX aY bX bY cX cY)) .ret))))))))) (G := ((((-9223372036854775808) ≤ aX ∧ aX ≤ 9223372036854775807) ∧ ((-9223372036854775808) ≤ aY ∧ aY ≤ 9223372036854775807)) ∧ ((((-9223372036854775808) ≤ bX ∧ bX ≤ 9223372036854775807) ∧ ((-9223372036854775808) ≤ bY ∧ bY ≤ 9223372036854775807)) ∧ (((-9223372036854775808) ≤ cX ∧ cX ≤ 9223372036854775807) ∧ ((-9223372036854775808) ≤ cY ∧ cY ≤ 9223372036854775807)))) → (True) → (((aX = aX) ∧ (aY = aY)) ∧ ((((okP aX aY) = false) → ((2 : Int) = (ornt aX aY bX bY cX cY))) ∧ (((okP aX aY) = true) → (((bX = bX) ∧ (bY = bY)) ∧ ((((okP bX bY) = false) → ((2 : Int) = (ornt aX aY bX bY cX cY))) ∧ (((okP bX bY) = true) → (((cX = cX) ∧ (cY = cY)) ∧ ((((okP cX cY) = false) → ((2 : Int) = (ornt aX aY bX bY cX cY))) ∧ (((okP cX cY) = true) → (((((aX = aX) ∧ (((-9223372036854775808) ≤ aX ∧ aX ≤ 9223372036854775807) → ((-4000) ≤ aX ∧ aX ≤ 4000))) ∧ ((aY = aY) ∧ (((-9223372036854775808) ≤ aY ∧ aY ≤ 9223372036854775807) → ((-4000) ≤ aY ∧ aY ≤ 4000)))) ∧ ((((bX = bX) ∧ (((-9223372036854775808) ≤ bX ∧ bX ≤ 9223372036854775807) → ((-4000) ≤ bX ∧ bX ≤ 4000))) ∧ ((bY = bY) ∧ (((-9223372036854775808) ≤ bY ∧ bY ≤ 9223372036854775807) → ((-4000) ≤ bY ∧ bY ≤ 4000)))) ∧ (((cX = cX) ∧ (((-9223372036854775808) ≤ cX ∧ cX ≤ 9223372036854775807) → ((-4000) ≤ cX ∧ cX ≤ 4000))) ∧ ((cY = cY) ∧ (((-9223372036854775808) ≤ cY ∧ cY ≤ 9223372036854775807) → ((-4000) ≤ cY ∧ cY ≤ 4000)))))) ∧ (((trn aX aY bX bY cX cY) = (trn aX aY bX bY cX cY)) ∧ ((sgn (trn aX aY bX bY cX cY)) = (ornt aX aY bX bY cX cY)))))))))))))) (by kernel_rfl) ?_
  intro h1 h2
  refine ⟨⟨rfl, rfl⟩, ?_, ?_⟩
  · intro c1
    -- 1: (2 : Int) = (ornt aX aY bX bY cX cY)
    first | rfl | omega | (simp_all [okP_iff]; omega) | (simp_all [ornt]; done)
  · intro c2
    refine ⟨⟨rfl, rfl⟩, ?_, ?_⟩
    · intro c3
      -- 2: (2 : Int) = (ornt aX aY bX bY cX cY)
      first | rfl | omega | (simp_all [okP_iff]; omega) | (simp_all [ornt]; done)
    · intro c4
      refine ⟨⟨rfl, rfl⟩, ?_, ?_⟩
      · intro c5
        -- 3: (2 : Int) = (ornt aX aY bX bY cX cY)
        first | rfl | omega | (simp_all [okP_iff]; omega) | (simp_all [ornt]; done)
      · intro c6
        refine ⟨?_, rfl, ?_⟩
        · refine ⟨?_, ?_, ?_, rfl, ?_⟩
          · refine ⟨?_, rfl, ?_⟩
            · refine ⟨rfl, ?_⟩
              intro c7
              -- 4: (-4000) ≤ aX ∧ aX ≤ 4000
              first | rfl | omega | (simp_all [okP_iff]; omega) | (simp_all [ornt]; done)
            · intro c8
              -- 5: (-4000) ≤ aY ∧ aY ≤ 4000
              first | rfl | omega | (simp_all [okP_iff]; omega) | (simp_all [ornt]; done)
          · refine ⟨?_, rfl, ?_⟩
            · refine ⟨rfl, ?_⟩
              intro c9
              -- 6: (-4000) ≤ bX ∧ bX ≤ 4000
              first | rfl | omega | (simp_all [okP_iff]; omega) | (simp_all [ornt]; done)
            · intro c10
              -- 7: (-4000) ≤ bY ∧ bY ≤ 4000
              first | rfl | omega | (simp_all [okP_iff]; omega) | (simp_all [ornt]; done)
          · refine ⟨rfl, ?_⟩
            intro c11
            -- 8: (-4000) ≤ cX ∧ cX ≤ 4000
            first | rfl | omega | (simp_all [okP_iff]; omega) | (simp_all [ornt]; done)
          · intro c12
            -- 9: (-4000) ≤ cY ∧ cY ≤ 4000
            first | rfl | omega | (simp_all [okP_iff]; omega) | (simp_all [ornt]; done)
          -- 10: (sgn (trn aX aY bX bY cX cY)) = (ornt aX aY bX bY cX cY)
        · first | rfl | omega | (simp_all [okP_iff]; omega) | (simp_all [ornt]; done)
def c_s_Orient (aX : Int) (aY : Int) (bX : Int) (bY : Int) (cX : Int) (cY : Int) : Cn Try.prog := ⟨_, _, _, _, _, s_Orient aX aY bX bY cX cY⟩
theorem l_near (X : Int → Int) (Y : Int → Int) (n : Int) : RunsTo Try.prog 50 [(.sl 0 2 (.lit 0) (.v fun _ => n) 1048576)] [some ⟨24, 2, true, (.sym (.v fun _ => n) fun e => [(.int .i64 (.v fun _ => (X (e.den))) (-9223372036854775808) 9223372036854775807), (.int .i64 (.v fun _ => (Y (e.den))) (-9223372036854775808) 9223372036854775807)])⟩] (.bool (.v fun _ => allB (fun i => in9 (X (i)) (Y (i))) n)) [some ⟨24, 2, true, (.sym (.v fun _ => n) fun e => [(.int .i64 (.v fun _ => (X (e.den))) (-9223372036854775808) 9223372036854775807), (.int .i64 (.v fun _ => (Y (e.den))) (-9223372036854775808) 9223372036854775807)])⟩] := by
  refine RunsTo.go env Try.func50 rfl Try.call50 rfl rfl (fun _ _ => (.loop [] [0] (Int) (fun x1 => ⟨spl 40 0 [(0, (.sl 0 2 (.lit 0) (.v fun _ => n) 1048576)), (3, (.int .i64 (.v fun _ => x1) 0 1048576))], [some ⟨24, 2, true, (.sym (.v fun _ => n) fun e => [(.int .i64 (.v fun _ => (X (e.den))) (-9223372036854775808) 9223372036854775807), (.int .i64 (.v fun _ => (Y (e.den))) (-9223372036854775808) 9223372036854775807)])⟩], 1⟩) (fun x1 => (0 ≤ x1 ∧ x1 ≤ n) ∧ ∀ i, 0 ≤ i → i < x1 → in9 (X (i)) (Y (i)) = true) (fun x1 => (n - x1).toNat) fun x1 => (.ite (.need (.need (.ite (.out .ret) (.need (.need (.ite (.out .ret) (.need (.need (.ite (.out .ret) (.need (.need (.ite (.out .ret) (.next [0]))))))))))))) (.out .ret)))) (G := (0 ≤ n ∧ n ≤ 1048576) → (∀ e11 : E, ((0 ≤ e11.den ∧ e11.den < n) → (((-9223372036854775808) ≤ ((X (e11.den))) ∧ ((X (e11.den))) ≤ 9223372036854775807) ∧ ((-9223372036854775808) ≤ ((Y (e11.den))) ∧ ((Y (e11.den))) ≤ 9223372036854775807)))) → ((∃ y2 : Int, (((0 ≤ y2 ∧ y2 ≤ n) ∧ ∀ i, 0 ≤ i → i < y2 → in9 (X (i)) (Y (i)) = true) ∧ (((n = n) ∧ ((0 : Int) = y2)) ∧ ((n ≤ n) ∧ (∀ e3 : E, ((0 ≤ e3.den ∧ e3.den < n) → ((((X (e3.den))) = ((X (e3.den)))) ∧ (((Y (e3.den))) = ((Y (e3.den))))))))))) ∧ (∀ x1 : Int, (((0 ≤ x1 ∧ x1 ≤ n) ∧ ∀ i, 0 ≤ i → i < x1 → in9 (X (i)) (Y (i)) = true) → (((x1 < n) → ((((0 ≤ x1) ∧ (x1 < n))) ∧ ((x1 < n) ∧ (((900 < ((X (x1)))) → (((allB (fun i => in9 (X (i)) (Y (i))) n) = false) ∧ ((n ≤ n) ∧ (∀ e4 : E, ((0 ≤ e4.den ∧ e4.den < n) → ((((X (e4.den))) = ((X (e4.den)))) ∧ (((Y (e4.den))) = ((Y (e4.den)))))))))) ∧ ((((X (x1))) ≤ 900) → ((((0 ≤ x1) ∧ (x1 < n))) ∧ ((x1 < n) ∧ (((((X (x1))) < (-900)) → (((allB (fun i => in9 (X (i)) (Y (i))) n) = false) ∧ ((n ≤ n) ∧ (∀ e5 : E, ((0 ≤ e5.den ∧ e5.den < n) → ((((X (e5.den))) = ((X (e5.den)))) ∧ (((Y (e5.den))) = ((Y (e5.den)))))))))) ∧ (((-900) ≤ ((X (x1)))) → ((((0 ≤ x1) ∧ (x1 < n))) ∧ ((x1 < n) ∧ (((900 < ((Y (x1)))) → (((allB (fun i => in9 (X (i)) (Y (i))) n) = false) ∧ ((n ≤ n) ∧ (∀ e6 : E, ((0 ≤ e6.den ∧ e6.den < n) → ((((X (e6.den))) = ((X (e6.den)))) ∧ (((Y (e6.den))) = ((Y (e6.den)))))))))) ∧ ((((Y (x1))) ≤ 900) → ((((0 ≤ x1) ∧ (x1 < n))) ∧ ((x1 < n) ∧ (((((Y (x1))) < (-900)) → (((allB (fun i => in9 (X (i)) (Y (i))) n) = false) ∧ ((n ≤ n) ∧ (∀ e7 : E, ((0 ≤ e7.den ∧ e7.den < n) → ((((X (e7.den))) = ((X (e7.den)))) ∧ (((Y (e7.den))) = ((Y (e7.den)))))))))) ∧ (((-900) ≤ ((Y (x1)))) → (∃ y8 : Int, (((0 ≤ y8 ∧ y8 ≤ n) ∧ ∀ i, 0 ≤ i → i < y8 → in9 (X (i)) (Y (i)) = true) ∧ ((((n = n) ∧ (((x1 + 1) = y8) ∧ ((1 ≤ (x1 + 1) ∧ (x1 + 1) ≤ 1048577) → (0 ≤ y8 ∧ y8 ≤ 1048576)))) ∧ ((n ≤ n) ∧ (∀ e9 : E, ((0 ≤ e9.den ∧ e9.den < n) → ((((X (e9.den))) = ((X (e9.den)))) ∧ (((Y (e9.den))) = ((Y (e9.den))))))))) ∧ ((n - y8).toNat < (n - x1).toNat))))))))))))))))))))) ∧ ((n ≤ x1) → (((allB (fun i => in9 (X (i)) (Y (i))) n) = true) ∧ ((n ≤ n) ∧ (∀ e10 : E, ((0 ≤ e10.den ∧ e10.den < n) → ((((X (e10.den))) = ((X (e10.den)))) ∧ (((Y (e10.den))) = ((Y (e10.den))))))))))))))) (by kernel_rfl) ?_
  intro h1 h2
  refine ⟨?_, ?_⟩
  · refine ⟨0, ?_⟩
    try dsimp only
    refine ⟨?_, ?_, Int.le_refl _, fun _ => fun _ => ⟨rfl, rfl⟩⟩
      -- 1: (0 ≤ y2 ∧ y2 ≤ n) ∧ ∀ i, 0 ≤ i → i < y2 → in9 (X (i)) (Y (i)) = true
    · first | rfl | omega | (refine ⟨by omega, fun i a b => ?_⟩; first | (exfalso; omega) | (by_cases e : i = j; (subst e; rw [in9_iff]; omega); exact I1.2 i a (by omega))) | (rw [allB_false (q := fun i => in9 (X i) (Y i)) I1.1.1 (by omega) (by rw [← Bool.not_eq_true, in9_iff]; omega)]) | (exact allB_iff.2 fun i a b => I1.2 i a (by omega))
    · refine ⟨rfl, ?_⟩
      -- 2: (0 : Int) = y2
      first | rfl | omega | (refine ⟨by omega, fun i a b => ?_⟩; first | (exfalso; omega) | (by_cases e : i = j; (subst e; rw [in9_iff]; omega); exact I1.2 i a (by omega))) | (rw [allB_false (q := fun i => in9 (X i) (Y i)) I1.1.1 (by omega) (by rw [← Bool.not_eq_true, in9_iff]; omega)]) | (exact allB_iff.2 fun i a b => I1.2 i a (by omega))
  · intro j
    intro I1
    refine ⟨?_, ?_⟩
    · intro c12
      refine ⟨?_, ?_, ?_, ?_⟩
        -- 3: ((0 ≤ x1) ∧ (x1 < n))
      · first | rfl | omega | (refine ⟨by omega, fun i a b => ?_⟩; first | (exfalso; omega) | (by_cases e : i = j; (subst e; rw [in9_iff]; omega); exact I1.2 i a (by omega))) | (rw [allB_false (q := fun i => in9 (X i) (Y i)) I1.1.1 (by omega) (by rw [← Bool.not_eq_true, in9_iff]; omega)]) | (exact allB_iff.2 fun i a b => I1.2 i a (by omega))
        -- 4: x1 < n
      · first | rfl | omega | (refine ⟨by omega, fun i a b => ?_⟩; first | (exfalso; omega) | (by_cases e : i = j; (subst e; rw [in9_iff]; omega); exact I1.2 i a (by omega))) | (rw [allB_false (q := fun i => in9 (X i) (Y i)) I1.1.1 (by omega) (by rw [← Bool.not_eq_true, in9_iff]; omega)]) | (exact allB_iff.2 fun i a b => I1.2 i a (by omega))
      · intro c13
        refine ⟨?_, Int.le_refl _, fun _ => fun _ => ⟨rfl, rfl⟩⟩
        -- 5: (allB (fun i => in9 (X (i)) (Y (i))) n) = false
        first | rfl | omega | (refine ⟨by omega, fun i a b => ?_⟩; first | (exfalso; omega) | (by_cases e : i = j; (subst e; rw [in9_iff]; omega); exact I1.2 i a (by omega))) | (rw [allB_false (q := fun i => in9 (X i) (Y i)) I1.1.1 (by omega) (by rw [← Bool.not_eq_true, in9_iff]; omega)]) | (exact allB_iff.2 fun i a b => I1.2 i a (by omega))
      · intro c14
        refine ⟨?_, ?_, ?_, ?_⟩
          -- 6: ((0 ≤ x1) ∧ (x1 < n))
        · first | rfl | omega | (refine ⟨by omega, fun i a b => ?_⟩; first | (exfalso; omega) | (by_cases e : i = j; (subst e; rw [in9_iff]; omega); exact I1.2 i a (by omega))) | (rw [allB_false (q := fun i => in9 (X i) (Y i)) I1.1.1 (by omega) (by rw [← Bool.not_eq_true, in9_iff]; omega)]) | (exact allB_iff.2 fun i a b => I1.2 i a (by omega))
          -- 7: x1 < n
        · first | rfl | omega | (refine ⟨by omega, fun i a b => ?_⟩; first | (exfalso; omega) | (by_cases e : i = j; (subst e; rw [in9_iff]; omega); exact I1.2 i a (by omega))) | (rw [allB_false (q := fun i => in9 (X i) (Y i)) I1.1.1 (by omega) (by rw [← Bool.not_eq_true, in9_iff]; omega)]) | (exact allB_iff.2 fun i a b => I1.2 i a (by omega))
        · intro c15
          refine ⟨?_, Int.le_refl _, fun _ => fun _ => ⟨rfl, rfl⟩⟩
          -- 8: (allB (fun i => in9 (X (i)) (Y (i))) n) = false
          first | rfl | omega | (refine ⟨by omega, fun i a b => ?_⟩; first | (exfalso; omega) | (by_cases e : i = j; (subst e; rw [in9_iff]; omega); exact I1.2 i a (by omega))) | (rw [allB_false (q := fun i => in9 (X i) (Y i)) I1.1.1 (by omega) (by rw [← Bool.not_eq_true, in9_iff]; omega)]) | (exact allB_iff.2 fun i a b => I1.2 i a (by omega))
        · intro c16
          refine ⟨?_, ?_, ?_, ?_⟩
            -- 9: ((0 ≤ x1) ∧ (x1 < n))
          · first | rfl | omega | (refine ⟨by omega, fun i a b => ?_⟩; first | (exfalso; omega) | (by_cases e : i = j; (subst e; rw [in9_iff]; omega); exact I1.2 i a (by omega))) | (rw [allB_false (q := fun i => in9 (X i) (Y i)) I1.1.1 (by omega) (by rw [← Bool.not_eq_true, in9_iff]; omega)]) | (exact allB_iff.2 fun i a b => I1.2 i a (by omega))
            -- 10: x1 < n
          · first | rfl | omega | (refine ⟨by omega, fun i a b => ?_⟩; first | (exfalso; omega) | (by_cases e : i = j; (subst e; rw [in9_iff]; omega); exact I1.2 i a (by omega))) | (rw [allB_false (q := fun i => in9 (X i) (Y i)) I1.1.1 (by omega) (by rw [← Bool.not_eq_true, in9_iff]; omega)]) | (exact allB_iff.2 fun i a b => I1.2 i a (by omega))
          · intro c17
            refine ⟨?_, Int.le_refl _, fun _ => fun _ => ⟨rfl, rfl⟩⟩
            -- 11: (allB (fun i => in9 (X (i)) (Y (i))) n) = false
            first | rfl | omega | (refine ⟨by omega, fun i a b => ?_⟩; first | (exfalso; omega) | (by_cases e : i = j; (subst e; rw [in9_iff]; omega); exact I1.2 i a (by omega))) | (rw [allB_false (q := fun i => in9 (X i) (Y i)) I1.1.1 (by omega) (by rw [← Bool.not_eq_true, in9_iff]; omega)]) | (exact allB_iff.2 fun i a b => I1.2 i a (by omega))
          · intro c18
            refine ⟨?_, ?_, ?_, ?_⟩
              -- 12: ((0 ≤ x1) ∧ (x1 < n))
            · first | rfl | omega | (refine ⟨by omega, fun i a b => ?_⟩; first | (exfalso; omega) | (by_cases e : i = j; (subst e; rw [in9_iff]; omega); exact I1.2 i a (by omega))) | (rw [allB_false (q := fun i => in9 (X i) (Y i)) I1.1.1 (by omega) (by rw [← Bool.not_eq_true, in9_iff]; omega)]) | (exact allB_iff.2 fun i a b => I1.2 i a (by omega))
              -- 13: x1 < n
            · first | rfl | omega | (refine ⟨by omega, fun i a b => ?_⟩; first | (exfalso; omega) | (by_cases e : i = j; (subst e; rw [in9_iff]; omega); exact I1.2 i a (by omega))) | (rw [allB_false (q := fun i => in9 (X i) (Y i)) I1.1.1 (by omega) (by rw [← Bool.not_eq_true, in9_iff]; omega)]) | (exact allB_iff.2 fun i a b => I1.2 i a (by omega))
            · intro c19
              refine ⟨?_, Int.le_refl _, fun _ => fun _ => ⟨rfl, rfl⟩⟩
              -- 14: (allB (fun i => in9 (X (i)) (Y (i))) n) = false
              first | rfl | omega | (refine ⟨by omega, fun i a b => ?_⟩; first | (exfalso; omega) | (by_cases e : i = j; (subst e; rw [in9_iff]; omega); exact I1.2 i a (by omega))) | (rw [allB_false (q := fun i => in9 (X i) (Y i)) I1.1.1 (by omega) (by rw [← Bool.not_eq_true, in9_iff]; omega)]) | (exact allB_iff.2 fun i a b => I1.2 i a (by omega))
            · intro c20
              refine ⟨j + 1, ?_⟩
              try dsimp only
              refine ⟨?_, ?_, ?_⟩
                -- 15: (0 ≤ y8 ∧ y8 ≤ n) ∧ ∀ i, 0 ≤ i → i < y8 → in9 (X (i)) (Y (i)) = true
              · first | rfl | omega | (refine ⟨by omega, fun i a b => ?_⟩; first | (exfalso; omega) | (by_cases e : i = j; (subst e; rw [in9_iff]; omega); exact I1.2 i a (by omega))) | (rw [allB_false (q := fun i => in9 (X i) (Y i)) I1.1.1 (by omega) (by rw [← Bool.not_eq_true, in9_iff]; omega)]) | (exact allB_iff.2 fun i a b => I1.2 i a (by omega))
              · refine ⟨?_, Int.le_refl _, fun _ => fun _ => ⟨rfl, rfl⟩⟩
                refine ⟨rfl, ?_, ?_⟩
                  -- 16: (x1 + 1) = y8
                · first | rfl | omega | (refine ⟨by omega, fun i a b => ?_⟩; first | (exfalso; omega) | (by_cases e : i = j; (subst e; rw [in9_iff]; omega); exact I1.2 i a (by omega))) | (rw [allB_false (q := fun i => in9 (X i) (Y i)) I1.1.1 (by omega) (by rw [← Bool.not_eq_true, in9_iff]; omega)]) | (exact allB_iff.2 fun i a b => I1.2 i a (by omega))
                · intro c21
                  -- 17: 0 ≤ y8 ∧ y8 ≤ 1048576
                  first | rfl | omega | (refine ⟨by omega, fun i a b => ?_⟩; first | (exfalso; omega) | (by_cases e : i = j; (subst e; rw [in9_iff]; omega); exact I1.2 i a (by omega))) | (rw [allB_false (q := fun i => in9 (X i) (Y i)) I1.1.1 (by omega) (by rw [← Bool.not_eq_true, in9_iff]; omega)]) | (exact allB_iff.2 fun i a b => I1.2 i a (by omega))
                -- 18: (n - y8).toNat < (n - x1).toNat
              · first | rfl | omega | (refine ⟨by omega, fun i a b => ?_⟩; first | (exfalso; omega) | (by_cases e : i = j; (subst e; rw [in9_iff]; omega); exact I1.2 i a (by omega))) | (rw [allB_false (q := fun i => in9 (X i) (Y i)) I1.1.1 (by omega) (by rw [← Bool.not_eq_true, in9_iff]; omega)]) | (exact allB_iff.2 fun i a b => I1.2 i a (by omega))
    · intro c22
      refine ⟨?_, Int.le_refl _, fun _ => fun _ => ⟨rfl, rfl⟩⟩
      -- 19: (allB (fun i => in9 (X (i)) (Y (i))) n) = true
      first | rfl | omega | (refine ⟨by omega, fun i a b => ?_⟩; first | (exfalso; omega) | (by_cases e : i = j; (subst e; rw [in9_iff]; omega); exact I1.2 i a (by omega))) | (rw [allB_false (q := fun i => in9 (X i) (Y i)) I1.1.1 (by omega) (by rw [← Bool.not_eq_true, in9_iff]; omega)]) | (exact allB_iff.2 fun i a b => I1.2 i a (by omega))
def c_l_near (X : Int → Int) (Y : Int → Int) (n : Int) : Cn Try.prog := ⟨_, _, _, _, _, l_near X Y n⟩
def q1 (C : Int → Int) (n : Int) : Int := apP C (cut n) 0
def q2 (C : Int → Int) (n : Int) : Int := apP C (cut n) (q1 C n)
theorem s_threePoints (C : Int → Int) (n : Int) : RunsTo Try.prog 88 [(.sl 0 1 (.lit 0) (.v fun _ => n) 9223372036854775807)] [some ⟨5, 1, false, (.sym (.v fun _ => n) fun e => [(.int .u8 (.v fun _ => (C (e.den))) 0 255)])⟩] (.tup [(.agg [(.int .i64 (.v fun _ => apX C (cut n) 0) (-1001) 1001), (.int .i64 (.v fun _ => apY C (cut n) 0) (-1001) 1001)]), (.agg [(.int .i64 (.v fun _ => apX C (cut n) (q1 C n)) (-1001) 1001), (.int .i64 (.v fun _ => apY C (cut n) (q1 C n)) (-1001) 1001)]), (.agg [(.int .i64 (.v fun _ => apX C (cut n) (q2 C n)) (-1001) 1001), (.int .i64 (.v fun _ => apY C (cut n) (q2 C n)) (-1001) 1001)])]) [some ⟨5, 1, false, (.sym (.v fun _ => cut n) fun e => [(.int .u8 (.v fun _ => (C (e.den))) 0 255)])⟩] := by
  refine RunsTo.go env Try.func88 rfl Try.call88 rfl rfl (fun _ _ => (.call (c_s_newReader C n) (.call (c_anyPoint C (cut n) 0) (.call (c_anyPoint C (cut n) (apP C (cut n) 0)) (.call (c_anyPoint C (cut n) (apP C (cut n) (apP C (cut n) 0))) .ret))))) (G := (0 ≤ n ∧ n ≤ 9223372036854775807) → (∀ e6 : E, ((0 ≤ e6.den ∧ e6.den < n) → (0 ≤ ((C (e6.den))) ∧ ((C (e6.den))) ≤ 255))) → ((n = n) ∧ (((n ≤ n) ∧ (∀ e1 : E, ((0 ≤ e1.den ∧ e1.den < n) → (((C (e1.den))) = ((C (e1.den))))))) ∧ (((((cut n) = (cut n)) ∧ ((0 : Int) = 0)) ∧ (((cut n) ≤ (cut n)) ∧ (∀ e2 : E, ((0 ≤ e2.den ∧ e2.den < (cut n)) → (((C (e2.den))) = ((C (e2.den)))))))) ∧ (((((cut n) = (cut n)) ∧ (((apP C (cut n) 0) = (apP C (cut n) 0)) ∧ ((0 ≤ (apP C (cut n) 0) ∧ (apP C (cut n) 0) ≤ 9999904) → (0 ≤ (apP C (cut n) 0) ∧ (apP C (cut n) 0) ≤ 9999900)))) ∧ (((cut n) ≤ (cut n)) ∧ (∀ e3 : E, ((0 ≤ e3.den ∧ e3.den < (cut n)) → (((C (e3.den))) = ((C (e3.den)))))))) ∧ (((((cut n) = (cut n)) ∧ (((apP C (cut n) (apP C (cut n) 0)) = (apP C (cut n) (apP C (cut n) 0))) ∧ ((0 ≤ (apP C (cut n) (apP C (cut n) 0)) ∧ (apP C (cut n) (apP C (cut n) 0)) ≤ 9999904) → (0 ≤ (apP C (cut n) (apP C (cut n) 0)) ∧ (apP C (cut n) (apP C (cut n) 0)) ≤ 9999900)))) ∧ (((cut n) ≤ (cut n)) ∧ (∀ e4 : E, ((0 ≤ e4.den ∧ e4.den < (cut n)) → (((C (e4.den))) = ((C (e4.den)))))))) ∧ (((((apX C (cut n) 0) = (apX C (cut n) 0)) ∧ ((apY C (cut n) 0) = (apY C (cut n) 0))) ∧ ((((apX C (cut n) (apP C (cut n) 0)) = (apX C (cut n) (q1 C n))) ∧ ((apY C (cut n) (apP C (cut n) 0)) = (apY C (cut n) (q1 C n)))) ∧ (((apX C (cut n) (apP C (cut n) (apP C (cut n) 0))) = (apX C (cut n) (q2 C n))) ∧ ((apY C (cut n) (apP C (cut n) (apP C (cut n) 0))) = (apY C (cut n) (q2 C n)))))) ∧ (((cut n) ≤ (cut n)) ∧ (∀ e5 : E, ((0 ≤ e5.den ∧ e5.den < (cut n)) → (((C (e5.den))) = ((C (e5.den)))))))))))))) (by kernel_rfl) ?_
  intro h1 h2
  have a1 := apP_bd C (cut n) 0
  have a2 := apP_bd C (cut n) (apP C (cut n) 0)
  refine ⟨rfl, ⟨Int.le_refl _, fun _ => fun _ => rfl⟩, ⟨⟨rfl, rfl⟩, ⟨Int.le_refl _, fun _ => fun _ => rfl⟩⟩, ?_, ?_, ?_, Int.le_refl _, fun _ => fun _ => rfl⟩
  · refine ⟨?_, Int.le_refl _, fun _ => fun _ => rfl⟩
    refine ⟨rfl, rfl, ?_⟩
    intro c7
    -- 1: 0 ≤ (apP C (cut n) 0) ∧ (apP C (cut n) 0) ≤ 9999900
    first | rfl | omega
  · refine ⟨?_, Int.le_refl _, fun _ => fun _ => rfl⟩
    refine ⟨rfl, rfl, ?_⟩
    intro c8
    -- 2: 0 ≤ (apP C (cut n) (apP C (cut n) 0)) ∧ (apP C (cut n) (apP C (cut n) 0)) ≤ 9999900
    first | rfl | omega
  · refine ⟨⟨rfl, rfl⟩, ?_, ?_, ?_⟩
    · refine ⟨?_, ?_⟩
        -- 3: (apX C (cut n) (apP C (cut n) 0)) = (apX C (cut n) (q1 C n))
      · first | rfl | omega
        -- 4: (apY C (cut n) (apP C (cut n) 0)) = (apY C (cut n) (q1 C n))
      · first | rfl | omega
      -- 5: (apX C (cut n) (apP C (cut n) (apP C (cut n) 0))) = (apX C (cut n) (q2 C n))
    · first | rfl | omega
      -- 6: (apY C (cut n) (apP C (cut n) (apP C (cut n) 0))) = (apY C (cut n) (q2 C n))
    · first | rfl | omega
def c_s_threePoints (C : Int → Int) (n : Int) : Cn Try.prog := ⟨_, _, _, _, _, s_threePoints C n⟩
end Go.Proofs.Ytheehhfmdmflmaa
