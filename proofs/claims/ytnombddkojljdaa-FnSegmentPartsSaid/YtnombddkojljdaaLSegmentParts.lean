/- FnSegmentParts: the walk. -/
import Derived.Test.YtnombddkojljdaaK95
set_option linter.unusedSimpArgs false
set_option linter.unusedVariables false
set_option maxRecDepth 100000
namespace Go.Proofs.Ytnombddkojljdaa
open Go.Sym
def sqd (aX aY bX bY : Int) : Int := if okP aX aY && okP bX bY then dst aX aY bX bY else -1
theorem dst_nonneg (aX aY bX bY : Int) : 0 ≤ dst aX aY bX bY := by
  have hsq : ∀ z : Int, 0 ≤ z * z := by
    intro z
    rcases Int.le_total 0 z with h | h
    · exact Int.mul_nonneg h h
    · have := Int.mul_nonneg (show 0 ≤ -z by omega) (show 0 ≤ -z by omega)
      rwa [Int.neg_mul_neg] at this
  have h1 := hsq (bX - aX)
  have h2 := hsq (bY - aY)
  unfold dst; omega
theorem sq_nn' (z : Int) : 0 ≤ z * z := by
  rcases Int.le_total 0 z with h | h
  · exact Int.mul_nonneg h h
  · have := Int.mul_nonneg (show 0 ≤ -z by omega) (show 0 ≤ -z by omega)
    rwa [Int.neg_mul_neg] at this
theorem seg_parts {ax ay bx bY px py : Int} (h : onSeg ax ay bx bY px py = true) : sqd ax ay px py ≤ sqd ax ay bx bY ∧ sqd bx bY px py ≤ sqd ax ay bx bY ∧ inTri ax ay bx bY bx bY px py = true := by
  unfold onSeg okS at h
  simp only [Bool.and_eq_true] at h
  obtain ⟨⟨⟨v1, v2⟩, _⟩, h2, h3⟩ := h
  have h3' := h3
  unfold onB at h3'
  simp only [Bool.and_eq_true, decide_eq_true_eq] at h3'
  have e : dst ax ay bx bY = dst ax ay px py + dst bx bY px py - 2 * dotp ax ay bx bY px py := by unfold dst dotp; grind
  have n1 : 0 ≤ dst ax ay px py := by
    have h1 := sq_nn' (ax - px)
    have h2 := sq_nn' (ay - py)
    have h3 := sq_nn' (px - ax)
    have h4 := sq_nn' (py - ay)
    unfold dst; omega
  have n2 : 0 ≤ dst bx bY px py := by
    have h1 := sq_nn' (bx - px)
    have h2 := sq_nn' (bY - py)
    have h3 := sq_nn' (px - bx)
    have h4 := sq_nn' (py - bY)
    unfold dst; omega
  have e1 : sqd ax ay px py = dst ax ay px py := if_pos (by simp [v1, h2])
  have e2 : sqd bx bY px py = dst bx bY px py := if_pos (by simp [v2, h2])
  have e3 : sqd ax ay bx bY = dst ax ay bx bY := if_pos (by simp [v1, v2])
  refine ⟨by rw [e1, e3]; omega, by rw [e2, e3]; omega, ?_⟩
  have e4 : inT ax ay bx bY bx bY px py = true := by
    unfold inT
    rw [if_pos (by unfold trn; grind), h3]
    rfl
  unfold inTri
  rw [e4]
  simp [v1, v2, h2]
theorem i_SquaredDistance (aX : Int) (aY : Int) (bX : Int) (bY : Int) : RunsTo Try.prog 9 [(.agg [(.int .i64 (.v fun _ => aX) (-9223372036854775808) 9223372036854775807), (.int .i64 (.v fun _ => aY) (-9223372036854775808) 9223372036854775807)]), (.agg [(.int .i64 (.v fun _ => bX) (-9223372036854775808) 9223372036854775807), (.int .i64 (.v fun _ => bY) (-9223372036854775808) 9223372036854775807)])] [] (.int .i64 (.v fun _ => sqd aX aY bX bY) (-1) 128000000) [] := by
  refine RunsTo.go env Try.func9 rfl Try.call9 rfl rfl (fun _ _ => (.call (c_i_allValid (selL [aX, bX]) (selL [aY, bY]) 2) (.ite .ret (.call (c_i_far aX aY bX bY) .ret)))) (G := ((((-9223372036854775808) ≤ aX ∧ aX ≤ 9223372036854775807) ∧ ((-9223372036854775808) ≤ aY ∧ aY ≤ 9223372036854775807)) ∧ (((-9223372036854775808) ≤ bX ∧ bX ≤ 9223372036854775807) ∧ ((-9223372036854775808) ≤ bY ∧ bY ≤ 9223372036854775807))) → (True) → (((2 : Int) = 2) ∧ ((((2 : Int) = 2) ∧ ((∀ e2 : E, ((e2.den = 0) → ((aX = (selL [aX, bX] (e2.den))) ∧ (aY = (selL [aY, bY] (e2.den)))))) ∧ (∀ e1 : E, ((e1.den = 1) → ((bX = (selL [aX, bX] (e1.den))) ∧ (bY = (selL [aY, bY] (e1.den)))))))) ∧ ((((allB (fun i => okP (selL [aX, bX] i) (selL [aY, bY] i)) 2) = false) → (((-1) : Int) = (sqd aX aY bX bY))) ∧ (((allB (fun i => okP (selL [aX, bX] i) (selL [aY, bY] i)) 2) = true) → (((((aX = aX) ∧ (((-9223372036854775808) ≤ aX ∧ aX ≤ 9223372036854775807) → ((-4000) ≤ aX ∧ aX ≤ 4000))) ∧ ((aY = aY) ∧ (((-9223372036854775808) ≤ aY ∧ aY ≤ 9223372036854775807) → ((-4000) ≤ aY ∧ aY ≤ 4000)))) ∧ (((bX = bX) ∧ (((-9223372036854775808) ≤ bX ∧ bX ≤ 9223372036854775807) → ((-4000) ≤ bX ∧ bX ≤ 4000))) ∧ ((bY = bY) ∧ (((-9223372036854775808) ≤ bY ∧ bY ≤ 9223372036854775807) → ((-4000) ≤ bY ∧ bY ≤ 4000))))) ∧ (((dst aX aY bX bY) = (sqd aX aY bX bY)) ∧ (((-128000000) ≤ (dst aX aY bX bY) ∧ (dst aX aY bX bY) ≤ 128000000) → ((-1) ≤ (sqd aX aY bX bY) ∧ (sqd aX aY bX bY) ≤ 128000000))))))))) (by kernel_rfl) ?_
  intro h1 h2
  refine ⟨rfl, ?_, ?_, ?_⟩
  · refine ⟨rfl, ?_, ?_⟩
    · intro e2
      intro c3
      refine ⟨?_, ?_⟩
        -- 1: aX = (selL [aX, bX] (e2.den))
      · first | rfl | omega | (intro h; simp [h]) | (simp_all [selL]; done) | (simp_all [allB2, okP_iff, selL]; omega) | (simp_all [sqd, allB2, selL]; done) | (have h9 := dst_nonneg aX aY bX bY; simp_all [sqd, allB2, selL]; omega)
        -- 2: aY = (selL [aY, bY] (e2.den))
      · first | rfl | omega | (intro h; simp [h]) | (simp_all [selL]; done) | (simp_all [allB2, okP_iff, selL]; omega) | (simp_all [sqd, allB2, selL]; done) | (have h9 := dst_nonneg aX aY bX bY; simp_all [sqd, allB2, selL]; omega)
    · intro e1
      intro c4
      refine ⟨?_, ?_⟩
        -- 3: bX = (selL [aX, bX] (e1.den))
      · first | rfl | omega | (intro h; simp [h]) | (simp_all [selL]; done) | (simp_all [allB2, okP_iff, selL]; omega) | (simp_all [sqd, allB2, selL]; done) | (have h9 := dst_nonneg aX aY bX bY; simp_all [sqd, allB2, selL]; omega)
        -- 4: bY = (selL [aY, bY] (e1.den))
      · first | rfl | omega | (intro h; simp [h]) | (simp_all [selL]; done) | (simp_all [allB2, okP_iff, selL]; omega) | (simp_all [sqd, allB2, selL]; done) | (have h9 := dst_nonneg aX aY bX bY; simp_all [sqd, allB2, selL]; omega)
  · intro c5
    -- 5: ((-1) : Int) = (sqd aX aY bX bY)
    first | rfl | omega | (intro h; simp [h]) | (simp_all [selL]; done) | (simp_all [allB2, okP_iff, selL]; omega) | (simp_all [sqd, allB2, selL]; done) | (have h9 := dst_nonneg aX aY bX bY; simp_all [sqd, allB2, selL]; omega)
  · intro c6
    refine ⟨?_, ?_, ?_⟩
    · refine ⟨?_, ?_, rfl, ?_⟩
      · refine ⟨?_, rfl, ?_⟩
        · refine ⟨rfl, ?_⟩
          intro c7
          -- 6: (-4000) ≤ aX ∧ aX ≤ 4000
          first | rfl | omega | (intro h; simp [h]) | (simp_all [selL]; done) | (simp_all [allB2, okP_iff, selL]; omega) | (simp_all [sqd, allB2, selL]; done) | (have h9 := dst_nonneg aX aY bX bY; simp_all [sqd, allB2, selL]; omega)
        · intro c8
          -- 7: (-4000) ≤ aY ∧ aY ≤ 4000
          first | rfl | omega | (intro h; simp [h]) | (simp_all [selL]; done) | (simp_all [allB2, okP_iff, selL]; omega) | (simp_all [sqd, allB2, selL]; done) | (have h9 := dst_nonneg aX aY bX bY; simp_all [sqd, allB2, selL]; omega)
      · refine ⟨rfl, ?_⟩
        intro c9
        -- 8: (-4000) ≤ bX ∧ bX ≤ 4000
        first | rfl | omega | (intro h; simp [h]) | (simp_all [selL]; done) | (simp_all [allB2, okP_iff, selL]; omega) | (simp_all [sqd, allB2, selL]; done) | (have h9 := dst_nonneg aX aY bX bY; simp_all [sqd, allB2, selL]; omega)
      · intro c10
        -- 9: (-4000) ≤ bY ∧ bY ≤ 4000
        first | rfl | omega | (intro h; simp [h]) | (simp_all [selL]; done) | (simp_all [allB2, okP_iff, selL]; omega) | (simp_all [sqd, allB2, selL]; done) | (have h9 := dst_nonneg aX aY bX bY; simp_all [sqd, allB2, selL]; omega)
      -- 10: (dst aX aY bX bY) = (sqd aX aY bX bY)
    · first | rfl | omega | (intro h; simp [h]) | (simp_all [selL]; done) | (simp_all [allB2, okP_iff, selL]; omega) | (simp_all [sqd, allB2, selL]; done) | (have h9 := dst_nonneg aX aY bX bY; simp_all [sqd, allB2, selL]; omega)
    · intro c11
      -- 11: (-1) ≤ (sqd aX aY bX bY) ∧ (sqd aX aY bX bY) ≤ 128000000
      first | rfl | omega | (intro h; simp [h]) | (simp_all [selL]; done) | (simp_all [allB2, okP_iff, selL]; omega) | (simp_all [sqd, allB2, selL]; done) | (have h9 := dst_nonneg aX aY bX bY; simp_all [sqd, allB2, selL]; omega)
def c_i_SquaredDistance (aX : Int) (aY : Int) (bX : Int) (bY : Int) : Cn Try.prog := ⟨_, _, _, _, _, i_SquaredDistance aX aY bX bY⟩
theorem l_FnSegmentParts (C : Int → Int) (n : Int) : RunsTo Try.prog 3 [(.sl 0 1 (.lit 0) (.v fun _ => n) 9223372036854775807)] [some ⟨5, 1, false, (.sym (.v fun _ => n) fun e => [(.int .u8 (.v fun _ => (C (e.den))) 0 255)])⟩] (.bool (.lit true)) [none] := by
  refine RunsTo.go env Try.func3 rfl Try.call3 rfl rfl (fun _ _ => (.ite .ret (.callF (c_s_DrawOnSegment C n) (.call (c_i_OnSegment (s1 C n) (s2 C n) (s3 C n) (s4 C n) (osX C n) (osY C n)) (.call (c_s_OnSegment (s1 C n) (s2 C n) (s3 C n) (s4 C n) (osX C n) (osY C n)) (.ite (.call (c_s_OnSegment (s1 C n) (s2 C n) (s3 C n) (s4 C n) (osX C n) (osY C n)) .ret) (.ite (.call (c_s_OnSegment (s1 C n) (s2 C n) (s3 C n) (s4 C n) (osX C n) (osY C n)) .ret) (.callF (c_i_SquaredDistance (s1 C n) (s2 C n) (s3 C n) (s4 C n)) (.callF (c_i_SquaredDistance (s1 C n) (s2 C n) (osX C n) (osY C n)) (.ite (.callF (c_i_SquaredDistance (s3 C n) (s4 C n) (osX C n) (osY C n)) (.ite (.call (c_i_InTriangle (s1 C n) (s2 C n) (s3 C n) (s4 C n) (s3 C n) (s4 C n) (osX C n) (osY C n)) .ret) .ret)) .ret)))))))))) (G := (0 ≤ n ∧ n ≤ 9223372036854775807) → (∀ e2 : E, ((0 ≤ e2.den ∧ e2.den < n) → (0 ≤ ((C (e2.den))) ∧ ((C (e2.den))) ≤ 255))) → ((n ≤ 1048576) → ((n = n) ∧ (((n ≤ n) ∧ (∀ e1 : E, ((0 ≤ e1.den ∧ e1.den < n) → (((C (e1.den))) = ((C (e1.den))))))) ∧ (((((-1001) ≤ (s1 C n) ∧ (s1 C n) ≤ 1001) ∧ (((-1001) ≤ (s2 C n) ∧ (s2 C n) ≤ 1001) ∧ (((-1001) ≤ (s3 C n) ∧ (s3 C n) ≤ 1001) ∧ ((-1001) ≤ (s4 C n) ∧ (s4 C n) ≤ 1001)))) ∧ (((-2002) ≤ (osX C n) ∧ (osX C n) ≤ 2002) ∧ ((-2002) ≤ (osY C n) ∧ (osY C n) ≤ 2002))) → (((((s1 C n) = (s1 C n)) ∧ (((s2 C n) = (s2 C n)) ∧ (((s3 C n) = (s3 C n)) ∧ ((s4 C n) = (s4 C n))))) ∧ (((osX C n) = (osX C n)) ∧ ((osY C n) = (osY C n)))) ∧ (((((s1 C n) = (s1 C n)) ∧ (((s2 C n) = (s2 C n)) ∧ (((s3 C n) = (s3 C n)) ∧ ((s4 C n) = (s4 C n))))) ∧ (((osX C n) = (osX C n)) ∧ ((osY C n) = (osY C n)))) ∧ ((((((onSeg (s1 C n) (s2 C n) (s3 C n) (s4 C n) (osX C n) (osY C n)) = true) ↔ ((onSeg (s1 C n) (s2 C n) (s3 C n) (s4 C n) (osX C n) (osY C n)) = false))) → (((((s1 C n) = (s1 C n)) ∧ (((s2 C n) = (s2 C n)) ∧ (((s3 C n) = (s3 C n)) ∧ ((s4 C n) = (s4 C n))))) ∧ (((osX C n) = (osX C n)) ∧ ((osY C n) = (osY C n)))) ∧ ((((onSeg (s1 C n) (s2 C n) (s3 C n) (s4 C n) (osX C n) (osY C n)) = true) ↔ ((onSeg (s1 C n) (s2 C n) (s3 C n) (s4 C n) (osX C n) (osY C n)) = true))))) ∧ (((((onSeg (s1 C n) (s2 C n) (s3 C n) (s4 C n) (osX C n) (osY C n)) = true) ↔ ((onSeg (s1 C n) (s2 C n) (s3 C n) (s4 C n) (osX C n) (osY C n)) = true))) → ((((onSeg (s1 C n) (s2 C n) (s3 C n) (s4 C n) (osX C n) (osY C n)) = false) → (((((s1 C n) = (s1 C n)) ∧ (((s2 C n) = (s2 C n)) ∧ (((s3 C n) = (s3 C n)) ∧ ((s4 C n) = (s4 C n))))) ∧ (((osX C n) = (osX C n)) ∧ ((osY C n) = (osY C n)))) ∧ ((((onSeg (s1 C n) (s2 C n) (s3 C n) (s4 C n) (osX C n) (osY C n)) = true) ↔ ((onSeg (s1 C n) (s2 C n) (s3 C n) (s4 C n) (osX C n) (osY C n)) = true))))) ∧ (((onSeg (s1 C n) (s2 C n) (s3 C n) (s4 C n) (osX C n) (osY C n)) = true) → (((((s1 C n) = (s1 C n)) ∧ ((s2 C n) = (s2 C n))) ∧ (((s3 C n) = (s3 C n)) ∧ ((s4 C n) = (s4 C n)))) ∧ (((-1) ≤ (sqd (s1 C n) (s2 C n) (s3 C n) (s4 C n)) ∧ (sqd (s1 C n) (s2 C n) (s3 C n) (s4 C n)) ≤ 128000000) → (((((s1 C n) = (s1 C n)) ∧ ((s2 C n) = (s2 C n))) ∧ (((osX C n) = (osX C n)) ∧ ((osY C n) = (osY C n)))) ∧ (((-1) ≤ (sqd (s1 C n) (s2 C n) (osX C n) (osY C n)) ∧ (sqd (s1 C n) (s2 C n) (osX C n) (osY C n)) ≤ 128000000) → ((((sqd (s1 C n) (s2 C n) (osX C n) (osY C n)) ≤ (sqd (s1 C n) (s2 C n) (s3 C n) (s4 C n))) → (((((s3 C n) = (s3 C n)) ∧ ((s4 C n) = (s4 C n))) ∧ (((osX C n) = (osX C n)) ∧ ((osY C n) = (osY C n)))) ∧ (((-1) ≤ (sqd (s3 C n) (s4 C n) (osX C n) (osY C n)) ∧ (sqd (s3 C n) (s4 C n) (osX C n) (osY C n)) ≤ 128000000) → ((((sqd (s3 C n) (s4 C n) (osX C n) (osY C n)) ≤ (sqd (s1 C n) (s2 C n) (s3 C n) (s4 C n))) → (((((s1 C n) = (s1 C n)) ∧ ((s2 C n) = (s2 C n))) ∧ ((((s3 C n) = (s3 C n)) ∧ ((s4 C n) = (s4 C n))) ∧ ((((s3 C n) = (s3 C n)) ∧ ((s4 C n) = (s4 C n))) ∧ (((osX C n) = (osX C n)) ∧ ((osY C n) = (osY C n)))))) ∧ ((inTri (s1 C n) (s2 C n) (s3 C n) (s4 C n) (s3 C n) (s4 C n) (osX C n) (osY C n)) = true))) ∧ (((sqd (s1 C n) (s2 C n) (s3 C n) (s4 C n)) < (sqd (s3 C n) (s4 C n) (osX C n) (osY C n))) → (False)))))) ∧ (((sqd (s1 C n) (s2 C n) (s3 C n) (s4 C n)) < (sqd (s1 C n) (s2 C n) (osX C n) (osY C n))) → (False)))))))))))))))))) (by kernel_rfl) ?_
  intro h1 h2
  intro c3
  refine ⟨rfl, ⟨Int.le_refl _, fun _ => fun _ => rfl⟩, ?_⟩
  intro c4
  refine ⟨⟨⟨rfl, ⟨rfl, ⟨rfl, rfl⟩⟩⟩, ⟨rfl, rfl⟩⟩, ⟨⟨rfl, ⟨rfl, ⟨rfl, rfl⟩⟩⟩, ⟨rfl, rfl⟩⟩, ?_, ?_⟩
  · intro c5
    refine ⟨⟨⟨rfl, ⟨rfl, ⟨rfl, rfl⟩⟩⟩, ⟨rfl, rfl⟩⟩, ?_⟩
    -- 1: (((onSeg (s1 C n) (s2 C n) (s3 C n) (s4 C n) (osX C n) (osY C n)) = true) ↔ ((onSeg (s1 C n) (s2 C n
    first | rfl | omega | (have hh := seg_parts (show onSeg (s1 C n) (s2 C n) (s3 C n) (s4 C n) (osX C n) (osY C n) = true by assumption); first | exact hh.1 | exact hh.2.1 | exact hh.2.2 | omega | (simp_all; done)) | (simp_all; done) | fail
  · intro c6
    refine ⟨?_, ?_⟩
    · intro c7
      refine ⟨⟨⟨rfl, ⟨rfl, ⟨rfl, rfl⟩⟩⟩, ⟨rfl, rfl⟩⟩, ?_⟩
      -- 2: (((onSeg (s1 C n) (s2 C n) (s3 C n) (s4 C n) (osX C n) (osY C n)) = true) ↔ ((onSeg (s1 C n) (s2 C n
      first | rfl | omega | (have hh := seg_parts (show onSeg (s1 C n) (s2 C n) (s3 C n) (s4 C n) (osX C n) (osY C n) = true by assumption); first | exact hh.1 | exact hh.2.1 | exact hh.2.2 | omega | (simp_all; done)) | (simp_all; done) | fail
    · intro c8
      refine ⟨⟨⟨rfl, rfl⟩, ⟨rfl, rfl⟩⟩, ?_⟩
      intro c9
      refine ⟨⟨⟨rfl, rfl⟩, ⟨rfl, rfl⟩⟩, ?_⟩
      intro c10
      refine ⟨?_, ?_⟩
      · intro c11
        refine ⟨⟨⟨rfl, rfl⟩, ⟨rfl, rfl⟩⟩, ?_⟩
        intro c12
        refine ⟨?_, ?_⟩
        · intro c13
          refine ⟨⟨⟨rfl, rfl⟩, ⟨⟨rfl, rfl⟩, ⟨⟨rfl, rfl⟩, ⟨rfl, rfl⟩⟩⟩⟩, ?_⟩
          -- 3: (inTri (s1 C n) (s2 C n) (s3 C n) (s4 C n) (s3 C n) (s4 C n) (osX C n) (osY C n)) = true
          first | rfl | omega | (have hh := seg_parts (show onSeg (s1 C n) (s2 C n) (s3 C n) (s4 C n) (osX C n) (osY C n) = true by assumption); first | exact hh.1 | exact hh.2.1 | exact hh.2.2 | omega | (simp_all; done)) | (simp_all; done) | fail
        · intro c14
          -- 4: False
          first | rfl | omega | (have hh := seg_parts (show onSeg (s1 C n) (s2 C n) (s3 C n) (s4 C n) (osX C n) (osY C n) = true by assumption); first | exact hh.1 | exact hh.2.1 | exact hh.2.2 | omega | (simp_all; done)) | (simp_all; done) | fail
      · intro c15
        -- 5: False
        first | rfl | omega | (have hh := seg_parts (show onSeg (s1 C n) (s2 C n) (s3 C n) (s4 C n) (osX C n) (osY C n) = true by assumption); first | exact hh.1 | exact hh.2.1 | exact hh.2.2 | omega | (simp_all; done)) | (simp_all; done) | fail
def c_l_FnSegmentParts (C : Int → Int) (n : Int) : Cn Try.prog := ⟨_, _, _, _, _, l_FnSegmentParts C n⟩
end Go.Proofs.Ytnombddkojljdaa
