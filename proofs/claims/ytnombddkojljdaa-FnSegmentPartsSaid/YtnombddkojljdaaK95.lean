/- Triangles: the reference's. -/
import Derived.Test.YtnombddkojljdaaK17
set_option linter.unusedSimpArgs false
set_option linter.unusedVariables false
set_option maxRecDepth 100000
namespace Go.Proofs.Ytnombddkojljdaa
open Go.Sym
def eqP (ax ay bx bY : Int) : Bool := decide (ax = bx) && decide (ay = bY)
theorem sgn_mul_iff (s x : Int) (hs : s = 1 ∨ s = -1) : (0 ≤ sgn x * s) ↔ (0 ≤ s * x) := by
  unfold sgn
  rcases hs with rfl | rfl <;> split <;> (try split) <;> omega
theorem onB_comm (ax ay bx bY px py : Int) : onB ax ay bx bY px py = onB bx bY ax ay px py := by
  have e1 : trn bx bY ax ay px py = -trn ax ay bx bY px py := by unfold trn; grind
  have e2 : dotp bx bY ax ay px py = dotp ax ay bx bY px py := by unfold dotp; rw [Int.mul_comm (bx - px), Int.mul_comm (bY - py)]
  unfold onB
  rw [e1, e2]
  congr 1
  rw [Bool.eq_iff_iff]
  simp
theorem sq_zero {u v : Int} (h : u * u + v * v ≤ 0) : u = 0 ∧ v = 0 := by
  have sq : ∀ z : Int, z ≠ 0 → 0 < z * z := fun z hz => by
    rcases Int.lt_or_gt_of_ne hz with h1 | h1
    · exact Int.mul_pos_of_neg_of_neg h1 h1
    · exact Int.mul_pos h1 h1
  have nn : ∀ z : Int, 0 ≤ z * z := fun z => by
    by_cases hz : z = 0
    · subst hz; simp
    · have := sq z hz; omega
  refine ⟨Classical.byContradiction fun hu => ?_, Classical.byContradiction fun hv => ?_⟩
  · have := sq u hu; have := nn v; omega
  · have := sq v hv; have := nn u; omega
theorem onB_same (ax ay px py : Int) : onB ax ay ax ay px py = eqP ax ay px py := by
  unfold onB eqP
  rw [Bool.eq_iff_iff]
  simp only [Bool.and_eq_true, decide_eq_true_eq]
  constructor
  · rintro ⟨_, h⟩
    have := sq_zero h
    omega
  · rintro ⟨rfl, rfl⟩
    exact ⟨by unfold trn; simp, by unfold dotp; simp⟩
theorem onB_left (ax ay bx bY : Int) : onB ax ay bx bY ax ay = true := by
  unfold onB trn dotp
  simp
/-- What the reference says of three points on a line. -/
def lineS (ax ay bx bY cx cy px py : Int) : Bool :=
  eqP ax ay px py || (!eqP ax ay bx bY && onB ax ay bx bY px py || (!eqP bx bY cx cy && onB bx bY cx cy px py || !eqP ax ay cx cy && onB ax ay cx cy px py))
theorem lineS_eq (ax ay bx bY cx cy px py : Int) : lineS ax ay bx bY cx cy px py = (onB ax ay bx bY px py || onB bx bY cx cy px py || onB cx cy ax ay px py) := by
  unfold lineS
  rw [onB_comm cx cy ax ay]
  by_cases h0 : eqP ax ay px py = true
  · have h0' := h0
    unfold eqP at h0'
    simp only [Bool.and_eq_true, decide_eq_true_eq] at h0'
    obtain ⟨rfl, rfl⟩ := h0'
    rw [h0, onB_left]
    simp
  · have hb : ∀ x y u v : Int, eqP x y u v = true → onB x y u v px py = eqP x y px py := fun x y u v h => by
      unfold eqP at h
      simp only [Bool.and_eq_true, decide_eq_true_eq] at h
      obtain ⟨rfl, rfl⟩ := h
      exact onB_same x y px py
    have h1 := hb ax ay bx bY
    have h2 := hb bx bY cx cy
    have h3 := hb ax ay cx cy
    have h4 : eqP ax ay bx bY = true → eqP bx bY px py = eqP ax ay px py := fun h => by
      unfold eqP at h
      simp only [Bool.and_eq_true, decide_eq_true_eq] at h
      obtain ⟨rfl, rfl⟩ := h
      rfl
    have h5 : eqP ax ay bx bY = false → eqP bx bY px py = true → onB ax ay bx bY px py = true := fun _ h => by
      unfold eqP at h
      simp only [Bool.and_eq_true, decide_eq_true_eq] at h
      obtain ⟨rfl, rfl⟩ := h
      rw [onB_comm]; exact onB_left _ _ _ _
    rw [Bool.eq_false_iff.2 h0] at h1 h3 h4 ⊢
    clear hb h0
    generalize eqP ax ay bx bY = e1 at *
    generalize eqP bx bY cx cy = e2 at *
    generalize eqP ax ay cx cy = e3 at *
    generalize eqP bx bY px py = e4 at *
    generalize onB ax ay bx bY px py = x1 at *
    generalize onB bx bY cx cy px py = x2 at *
    generalize onB ax ay cx cy px py = x3 at *
    revert h1 h2 h3 h4 h5
    cases e1 <;> cases e2 <;> cases e3 <;> cases e4 <;> cases x1 <;> cases x2 <;> cases x3 <;> simp
theorem inT_line {aX aY bX bY cX cY dX dY : Int} (h : trn aX aY bX bY cX cY = 0) : inT aX aY bX bY cX cY dX dY = lineS aX aY bX bY cX cY dX dY := by
  unfold inT; rw [if_pos h, lineS_eq]
theorem inT_side {aX aY bX bY cX cY dX dY : Int} (h : trn aX aY bX bY cX cY ≠ 0) : inT aX aY bX bY cX cY dX dY = true ↔ (0 ≤ sgn (trn aX aY bX bY dX dY) * sgn (trn aX aY bX bY cX cY) ∧ 0 ≤ sgn (trn bX bY cX cY dX dY) * sgn (trn aX aY bX bY cX cY)) ∧ 0 ≤ sgn (trn cX cY aX aY dX dY) * sgn (trn aX aY bX bY cX cY) := by
  have hz := sgn_zero' (trn aX aY bX bY cX cY)
  have hb := sgn_bd' (trn aX aY bX bY cX cY)
  have hs : sgn (trn aX aY bX bY cX cY) = 1 ∨ sgn (trn aX aY bX bY cX cY) = -1 := by omega
  unfold inT
  rw [if_neg h, sgn_mul_iff _ _ hs, sgn_mul_iff _ _ hs, sgn_mul_iff _ _ hs]
  simp

theorem s_inTriangle (aX : Int) (aY : Int) (bX : Int) (bY : Int) (cX : Int) (cY : Int) (dX : Int) (dY : Int) : RunsTo Try.prog 32 [(.agg [(.int .i64 (.v fun _ => aX) (-2002) 2002), (.int .i64 (.v fun _ => aY) (-2002) 2002)]), (.agg [(.int .i64 (.v fun _ => bX) (-2002) 2002), (.int .i64 (.v fun _ => bY) (-2002) 2002)]), (.agg [(.int .i64 (.v fun _ => cX) (-2002) 2002), (.int .i64 (.v fun _ => cY) (-2002) 2002)]), (.agg [(.int .i64 (.v fun _ => dX) (-2002) 2002), (.int .i64 (.v fun _ => dY) (-2002) 2002)])] [] (.bool (.v fun _ => inT aX aY bX bY cX cY dX dY)) [] := by
  refine RunsTo.go env Try.func32 rfl Try.call32 rfl rfl (fun _ _ => (.call (c_s_cross aX aY bX bY cX cY) (.call (c_s_sign (trn aX aY bX bY cX cY)) (.ite (.ite .ret (.ite (.call (c_s_onSegment aX aY bX bY dX dY) (.ite .ret (.ite (.call (c_s_onSegment bX bY cX cY dX dY) (.ite .ret (.ite (.call (c_s_onSegment aX aY cX cY dX dY) .ret) .ret))) (.ite (.call (c_s_onSegment aX aY cX cY dX dY) .ret) .ret)))) (.ite (.call (c_s_onSegment bX bY cX cY dX dY) (.ite .ret (.ite (.call (c_s_onSegment aX aY cX cY dX dY) .ret) .ret))) (.ite (.call (c_s_onSegment aX aY cX cY dX dY) .ret) .ret)))) (.call (c_s_cross aX aY bX bY dX dY) (.call (c_s_sign (trn aX aY bX bY dX dY)) (.ite (.call (c_s_cross bX bY cX cY dX dY) (.call (c_s_sign (trn bX bY cX cY dX dY)) (.ite (.call (c_s_cross cX cY aX aY dX dY) (.call (c_s_sign (trn cX cY aX aY dX dY)) .ret)) .ret))) .ret))))))) (G := ((((-2002) ≤ aX ∧ aX ≤ 2002) ∧ ((-2002) ≤ aY ∧ aY ≤ 2002)) ∧ ((((-2002) ≤ bX ∧ bX ≤ 2002) ∧ ((-2002) ≤ bY ∧ bY ≤ 2002)) ∧ ((((-2002) ≤ cX ∧ cX ≤ 2002) ∧ ((-2002) ≤ cY ∧ cY ≤ 2002)) ∧ (((-2002) ≤ dX ∧ dX ≤ 2002) ∧ ((-2002) ≤ dY ∧ dY ≤ 2002))))) → (True) → ((((aX = aX) ∧ (aY = aY)) ∧ (((bX = bX) ∧ (bY = bY)) ∧ ((cX = cX) ∧ (cY = cY)))) ∧ (((trn aX aY bX bY cX cY) = (trn aX aY bX bY cX cY)) ∧ ((((sgn (trn aX aY bX bY cX cY)) = 0) → (((((aX = dX) ∧ (aY = dY))) → ((inT aX aY bX bY cX cY dX dY) = true)) ∧ ((((aX ≠ dX) ∨ (aY ≠ dY))) → (((((aX ≠ bX) ∨ (aY ≠ bY))) → ((((aX = aX) ∧ ((aY = aY) ∧ ((bX = bX) ∧ (bY = bY)))) ∧ ((dX = dX) ∧ (dY = dY))) ∧ ((((onB aX aY bX bY dX dY) = true) → ((inT aX aY bX bY cX cY dX dY) = true)) ∧ (((onB aX aY bX bY dX dY) = false) → (((((bX ≠ cX) ∨ (bY ≠ cY))) → ((((bX = bX) ∧ ((bY = bY) ∧ ((cX = cX) ∧ (cY = cY)))) ∧ ((dX = dX) ∧ (dY = dY))) ∧ ((((onB bX bY cX cY dX dY) = true) → ((inT aX aY bX bY cX cY dX dY) = true)) ∧ (((onB bX bY cX cY dX dY) = false) → (((((aX ≠ cX) ∨ (aY ≠ cY))) → ((((aX = aX) ∧ ((aY = aY) ∧ ((cX = cX) ∧ (cY = cY)))) ∧ ((dX = dX) ∧ (dY = dY))) ∧ (((onB aX aY cX cY dX dY) = true) ↔ ((inT aX aY bX bY cX cY dX dY) = true)))) ∧ ((((aX = cX) ∧ (aY = cY))) → ((inT aX aY bX bY cX cY dX dY) = false))))))) ∧ ((((bX = cX) ∧ (bY = cY))) → (((((aX ≠ cX) ∨ (aY ≠ cY))) → ((((aX = aX) ∧ ((aY = aY) ∧ ((cX = cX) ∧ (cY = cY)))) ∧ ((dX = dX) ∧ (dY = dY))) ∧ (((onB aX aY cX cY dX dY) = true) ↔ ((inT aX aY bX bY cX cY dX dY) = true)))) ∧ ((((aX = cX) ∧ (aY = cY))) → ((inT aX aY bX bY cX cY dX dY) = false))))))))) ∧ ((((aX = bX) ∧ (aY = bY))) → (((((bX ≠ cX) ∨ (bY ≠ cY))) → ((((bX = bX) ∧ ((bY = bY) ∧ ((cX = cX) ∧ (cY = cY)))) ∧ ((dX = dX) ∧ (dY = dY))) ∧ ((((onB bX bY cX cY dX dY) = true) → ((inT aX aY bX bY cX cY dX dY) = true)) ∧ (((onB bX bY cX cY dX dY) = false) → (((((aX ≠ cX) ∨ (aY ≠ cY))) → ((((aX = aX) ∧ ((aY = aY) ∧ ((cX = cX) ∧ (cY = cY)))) ∧ ((dX = dX) ∧ (dY = dY))) ∧ (((onB aX aY cX cY dX dY) = true) ↔ ((inT aX aY bX bY cX cY dX dY) = true)))) ∧ ((((aX = cX) ∧ (aY = cY))) → ((inT aX aY bX bY cX cY dX dY) = false))))))) ∧ ((((bX = cX) ∧ (bY = cY))) → (((((aX ≠ cX) ∨ (aY ≠ cY))) → ((((aX = aX) ∧ ((aY = aY) ∧ ((cX = cX) ∧ (cY = cY)))) ∧ ((dX = dX) ∧ (dY = dY))) ∧ (((onB aX aY cX cY dX dY) = true) ↔ ((inT aX aY bX bY cX cY dX dY) = true)))) ∧ ((((aX = cX) ∧ (aY = cY))) → ((inT aX aY bX bY cX cY dX dY) = false)))))))))) ∧ (((sgn (trn aX aY bX bY cX cY)) ≠ 0) → ((((aX = aX) ∧ (aY = aY)) ∧ (((bX = bX) ∧ (bY = bY)) ∧ ((dX = dX) ∧ (dY = dY)))) ∧ (((trn aX aY bX bY dX dY) = (trn aX aY bX bY dX dY)) ∧ (((0 ≤ ((sgn (trn aX aY bX bY dX dY)) * (sgn (trn aX aY bX bY cX cY)))) → ((((bX = bX) ∧ (bY = bY)) ∧ (((cX = cX) ∧ (cY = cY)) ∧ ((dX = dX) ∧ (dY = dY)))) ∧ (((trn bX bY cX cY dX dY) = (trn bX bY cX cY dX dY)) ∧ (((0 ≤ ((sgn (trn bX bY cX cY dX dY)) * (sgn (trn aX aY bX bY cX cY)))) → ((((cX = cX) ∧ (cY = cY)) ∧ (((aX = aX) ∧ (aY = aY)) ∧ ((dX = dX) ∧ (dY = dY)))) ∧ (((trn cX cY aX aY dX dY) = (trn cX cY aX aY dX dY)) ∧ ((0 ≤ ((sgn (trn cX cY aX aY dX dY)) * (sgn (trn aX aY bX bY cX cY)))) ↔ ((inT aX aY bX bY cX cY dX dY) = true))))) ∧ ((((sgn (trn bX bY cX cY dX dY)) * (sgn (trn aX aY bX bY cX cY))) < 0) → ((inT aX aY bX bY cX cY dX dY) = false)))))) ∧ ((((sgn (trn aX aY bX bY dX dY)) * (sgn (trn aX aY bX bY cX cY))) < 0) → ((inT aX aY bX bY cX cY dX dY) = false)))))))))) (by kernel_rfl) ?_
  intro h1 h2
  refine ⟨⟨⟨rfl, rfl⟩, ⟨⟨rfl, rfl⟩, ⟨rfl, rfl⟩⟩⟩, rfl, ?_, ?_⟩
  · intro c1
    refine ⟨?_, ?_⟩
    · intro c2
      -- 1: (inT aX aY bX bY cX cY dX dY) = true
      first | rfl | omega | (have hz := sgn_zero' (trn aX aY bX bY cX cY); have hb := sgn_bd' (trn aX aY bX bY cX cY); first | omega | (have hn : trn aX aY bX bY cX cY = 0 := (by omega); have hl := inT_line (dX := dX) (dY := dY) hn; first | (rw [hl]; unfold lineS eqP; simp_all; done) | (simp only [hl, lineS, eqP]; simp_all; done) | (simp only [hl, lineS, eqP]; simp_all; omega)) | (have hn : trn aX aY bX bY cX cY ≠ 0 := (by omega); have hl := inT_side (dX := dX) (dY := dY) hn; first | (rw [hl]; omega) | (rw [← Bool.not_eq_true, hl]; omega) | (constructor <;> (intro hh; first | (rw [hl]; omega) | (have hh := hl.1 hh; omega))))) | fail
    · intro c3
      refine ⟨?_, ?_⟩
      · intro c4
        refine ⟨⟨⟨rfl, ⟨rfl, ⟨rfl, rfl⟩⟩⟩, ⟨rfl, rfl⟩⟩, ?_, ?_⟩
        · intro c5
          -- 2: (inT aX aY bX bY cX cY dX dY) = true
          first | rfl | omega | (have hz := sgn_zero' (trn aX aY bX bY cX cY); have hb := sgn_bd' (trn aX aY bX bY cX cY); first | omega | (have hn : trn aX aY bX bY cX cY = 0 := (by omega); have hl := inT_line (dX := dX) (dY := dY) hn; first | (rw [hl]; unfold lineS eqP; simp_all; done) | (simp only [hl, lineS, eqP]; simp_all; done) | (simp only [hl, lineS, eqP]; simp_all; omega)) | (have hn : trn aX aY bX bY cX cY ≠ 0 := (by omega); have hl := inT_side (dX := dX) (dY := dY) hn; first | (rw [hl]; omega) | (rw [← Bool.not_eq_true, hl]; omega) | (constructor <;> (intro hh; first | (rw [hl]; omega) | (have hh := hl.1 hh; omega))))) | fail
        · intro c6
          refine ⟨?_, ?_⟩
          · intro c7
            refine ⟨⟨⟨rfl, ⟨rfl, ⟨rfl, rfl⟩⟩⟩, ⟨rfl, rfl⟩⟩, ?_, ?_⟩
            · intro c8
              -- 3: (inT aX aY bX bY cX cY dX dY) = true
              first | rfl | omega | (have hz := sgn_zero' (trn aX aY bX bY cX cY); have hb := sgn_bd' (trn aX aY bX bY cX cY); first | omega | (have hn : trn aX aY bX bY cX cY = 0 := (by omega); have hl := inT_line (dX := dX) (dY := dY) hn; first | (rw [hl]; unfold lineS eqP; simp_all; done) | (simp only [hl, lineS, eqP]; simp_all; done) | (simp only [hl, lineS, eqP]; simp_all; omega)) | (have hn : trn aX aY bX bY cX cY ≠ 0 := (by omega); have hl := inT_side (dX := dX) (dY := dY) hn; first | (rw [hl]; omega) | (rw [← Bool.not_eq_true, hl]; omega) | (constructor <;> (intro hh; first | (rw [hl]; omega) | (have hh := hl.1 hh; omega))))) | fail
            · intro c9
              refine ⟨?_, ?_⟩
              · intro c10
                refine ⟨⟨⟨rfl, ⟨rfl, ⟨rfl, rfl⟩⟩⟩, ⟨rfl, rfl⟩⟩, ?_⟩
                -- 4: ((onB aX aY cX cY dX dY) = true) ↔ ((inT aX aY bX bY cX cY dX dY) = true)
                first | rfl | omega | (have hz := sgn_zero' (trn aX aY bX bY cX cY); have hb := sgn_bd' (trn aX aY bX bY cX cY); first | omega | (have hn : trn aX aY bX bY cX cY = 0 := (by omega); have hl := inT_line (dX := dX) (dY := dY) hn; first | (rw [hl]; unfold lineS eqP; simp_all; done) | (simp only [hl, lineS, eqP]; simp_all; done) | (simp only [hl, lineS, eqP]; simp_all; omega)) | (have hn : trn aX aY bX bY cX cY ≠ 0 := (by omega); have hl := inT_side (dX := dX) (dY := dY) hn; first | (rw [hl]; omega) | (rw [← Bool.not_eq_true, hl]; omega) | (constructor <;> (intro hh; first | (rw [hl]; omega) | (have hh := hl.1 hh; omega))))) | fail
              · intro c11
                -- 5: (inT aX aY bX bY cX cY dX dY) = false
                first | rfl | omega | (have hz := sgn_zero' (trn aX aY bX bY cX cY); have hb := sgn_bd' (trn aX aY bX bY cX cY); first | omega | (have hn : trn aX aY bX bY cX cY = 0 := (by omega); have hl := inT_line (dX := dX) (dY := dY) hn; first | (rw [hl]; unfold lineS eqP; simp_all; done) | (simp only [hl, lineS, eqP]; simp_all; done) | (simp only [hl, lineS, eqP]; simp_all; omega)) | (have hn : trn aX aY bX bY cX cY ≠ 0 := (by omega); have hl := inT_side (dX := dX) (dY := dY) hn; first | (rw [hl]; omega) | (rw [← Bool.not_eq_true, hl]; omega) | (constructor <;> (intro hh; first | (rw [hl]; omega) | (have hh := hl.1 hh; omega))))) | fail
          · intro c12
            refine ⟨?_, ?_⟩
            · intro c13
              refine ⟨⟨⟨rfl, ⟨rfl, ⟨rfl, rfl⟩⟩⟩, ⟨rfl, rfl⟩⟩, ?_⟩
              -- 6: ((onB aX aY cX cY dX dY) = true) ↔ ((inT aX aY bX bY cX cY dX dY) = true)
              first | rfl | omega | (have hz := sgn_zero' (trn aX aY bX bY cX cY); have hb := sgn_bd' (trn aX aY bX bY cX cY); first | omega | (have hn : trn aX aY bX bY cX cY = 0 := (by omega); have hl := inT_line (dX := dX) (dY := dY) hn; first | (rw [hl]; unfold lineS eqP; simp_all; done) | (simp only [hl, lineS, eqP]; simp_all; done) | (simp only [hl, lineS, eqP]; simp_all; omega)) | (have hn : trn aX aY bX bY cX cY ≠ 0 := (by omega); have hl := inT_side (dX := dX) (dY := dY) hn; first | (rw [hl]; omega) | (rw [← Bool.not_eq_true, hl]; omega) | (constructor <;> (intro hh; first | (rw [hl]; omega) | (have hh := hl.1 hh; omega))))) | fail
            · intro c14
              -- 7: (inT aX aY bX bY cX cY dX dY) = false
              first | rfl | omega | (have hz := sgn_zero' (trn aX aY bX bY cX cY); have hb := sgn_bd' (trn aX aY bX bY cX cY); first | omega | (have hn : trn aX aY bX bY cX cY = 0 := (by omega); have hl := inT_line (dX := dX) (dY := dY) hn; first | (rw [hl]; unfold lineS eqP; simp_all; done) | (simp only [hl, lineS, eqP]; simp_all; done) | (simp only [hl, lineS, eqP]; simp_all; omega)) | (have hn : trn aX aY bX bY cX cY ≠ 0 := (by omega); have hl := inT_side (dX := dX) (dY := dY) hn; first | (rw [hl]; omega) | (rw [← Bool.not_eq_true, hl]; omega) | (constructor <;> (intro hh; first | (rw [hl]; omega) | (have hh := hl.1 hh; omega))))) | fail
      · intro c15
        refine ⟨?_, ?_⟩
        · intro c16
          refine ⟨⟨⟨rfl, ⟨rfl, ⟨rfl, rfl⟩⟩⟩, ⟨rfl, rfl⟩⟩, ?_, ?_⟩
          · intro c17
            -- 8: (inT aX aY bX bY cX cY dX dY) = true
            first | rfl | omega | (have hz := sgn_zero' (trn aX aY bX bY cX cY); have hb := sgn_bd' (trn aX aY bX bY cX cY); first | omega | (have hn : trn aX aY bX bY cX cY = 0 := (by omega); have hl := inT_line (dX := dX) (dY := dY) hn; first | (rw [hl]; unfold lineS eqP; simp_all; done) | (simp only [hl, lineS, eqP]; simp_all; done) | (simp only [hl, lineS, eqP]; simp_all; omega)) | (have hn : trn aX aY bX bY cX cY ≠ 0 := (by omega); have hl := inT_side (dX := dX) (dY := dY) hn; first | (rw [hl]; omega) | (rw [← Bool.not_eq_true, hl]; omega) | (constructor <;> (intro hh; first | (rw [hl]; omega) | (have hh := hl.1 hh; omega))))) | fail
          · intro c18
            refine ⟨?_, ?_⟩
            · intro c19
              refine ⟨⟨⟨rfl, ⟨rfl, ⟨rfl, rfl⟩⟩⟩, ⟨rfl, rfl⟩⟩, ?_⟩
              -- 9: ((onB aX aY cX cY dX dY) = true) ↔ ((inT aX aY bX bY cX cY dX dY) = true)
              first | rfl | omega | (have hz := sgn_zero' (trn aX aY bX bY cX cY); have hb := sgn_bd' (trn aX aY bX bY cX cY); first | omega | (have hn : trn aX aY bX bY cX cY = 0 := (by omega); have hl := inT_line (dX := dX) (dY := dY) hn; first | (rw [hl]; unfold lineS eqP; simp_all; done) | (simp only [hl, lineS, eqP]; simp_all; done) | (simp only [hl, lineS, eqP]; simp_all; omega)) | (have hn : trn aX aY bX bY cX cY ≠ 0 := (by omega); have hl := inT_side (dX := dX) (dY := dY) hn; first | (rw [hl]; omega) | (rw [← Bool.not_eq_true, hl]; omega) | (constructor <;> (intro hh; first | (rw [hl]; omega) | (have hh := hl.1 hh; omega))))) | fail
            · intro c20
              -- 10: (inT aX aY bX bY cX cY dX dY) = false
              first | rfl | omega | (have hz := sgn_zero' (trn aX aY bX bY cX cY); have hb := sgn_bd' (trn aX aY bX bY cX cY); first | omega | (have hn : trn aX aY bX bY cX cY = 0 := (by omega); have hl := inT_line (dX := dX) (dY := dY) hn; first | (rw [hl]; unfold lineS eqP; simp_all; done) | (simp only [hl, lineS, eqP]; simp_all; done) | (simp only [hl, lineS, eqP]; simp_all; omega)) | (have hn : trn aX aY bX bY cX cY ≠ 0 := (by omega); have hl := inT_side (dX := dX) (dY := dY) hn; first | (rw [hl]; omega) | (rw [← Bool.not_eq_true, hl]; omega) | (constructor <;> (intro hh; first | (rw [hl]; omega) | (have hh := hl.1 hh; omega))))) | fail
        · intro c21
          refine ⟨?_, ?_⟩
          · intro c22
            refine ⟨⟨⟨rfl, ⟨rfl, ⟨rfl, rfl⟩⟩⟩, ⟨rfl, rfl⟩⟩, ?_⟩
            -- 11: ((onB aX aY cX cY dX dY) = true) ↔ ((inT aX aY bX bY cX cY dX dY) = true)
            first | rfl | omega | (have hz := sgn_zero' (trn aX aY bX bY cX cY); have hb := sgn_bd' (trn aX aY bX bY cX cY); first | omega | (have hn : trn aX aY bX bY cX cY = 0 := (by omega); have hl := inT_line (dX := dX) (dY := dY) hn; first | (rw [hl]; unfold lineS eqP; simp_all; done) | (simp only [hl, lineS, eqP]; simp_all; done) | (simp only [hl, lineS, eqP]; simp_all; omega)) | (have hn : trn aX aY bX bY cX cY ≠ 0 := (by omega); have hl := inT_side (dX := dX) (dY := dY) hn; first | (rw [hl]; omega) | (rw [← Bool.not_eq_true, hl]; omega) | (constructor <;> (intro hh; first | (rw [hl]; omega) | (have hh := hl.1 hh; omega))))) | fail
          · intro c23
            -- 12: (inT aX aY bX bY cX cY dX dY) = false
            first | rfl | omega | (have hz := sgn_zero' (trn aX aY bX bY cX cY); have hb := sgn_bd' (trn aX aY bX bY cX cY); first | omega | (have hn : trn aX aY bX bY cX cY = 0 := (by omega); have hl := inT_line (dX := dX) (dY := dY) hn; first | (rw [hl]; unfold lineS eqP; simp_all; done) | (simp only [hl, lineS, eqP]; simp_all; done) | (simp only [hl, lineS, eqP]; simp_all; omega)) | (have hn : trn aX aY bX bY cX cY ≠ 0 := (by omega); have hl := inT_side (dX := dX) (dY := dY) hn; first | (rw [hl]; omega) | (rw [← Bool.not_eq_true, hl]; omega) | (constructor <;> (intro hh; first | (rw [hl]; omega) | (have hh := hl.1 hh; omega))))) | fail
  · intro c24
    refine ⟨⟨⟨rfl, rfl⟩, ⟨⟨rfl, rfl⟩, ⟨rfl, rfl⟩⟩⟩, rfl, ?_, ?_⟩
    · intro c25
      refine ⟨⟨⟨rfl, rfl⟩, ⟨⟨rfl, rfl⟩, ⟨rfl, rfl⟩⟩⟩, rfl, ?_, ?_⟩
      · intro c26
        refine ⟨⟨⟨rfl, rfl⟩, ⟨⟨rfl, rfl⟩, ⟨rfl, rfl⟩⟩⟩, rfl, ?_⟩
        -- 13: (0 ≤ ((sgn (trn cX cY aX aY dX dY)) * (sgn (trn aX aY bX bY cX cY)))) ↔ ((inT aX aY bX bY cX cY dX d
        first | rfl | omega | (have hz := sgn_zero' (trn aX aY bX bY cX cY); have hb := sgn_bd' (trn aX aY bX bY cX cY); first | omega | (have hn : trn aX aY bX bY cX cY = 0 := (by omega); have hl := inT_line (dX := dX) (dY := dY) hn; first | (rw [hl]; unfold lineS eqP; simp_all; done) | (simp only [hl, lineS, eqP]; simp_all; done) | (simp only [hl, lineS, eqP]; simp_all; omega)) | (have hn : trn aX aY bX bY cX cY ≠ 0 := (by omega); have hl := inT_side (dX := dX) (dY := dY) hn; first | (rw [hl]; omega) | (rw [← Bool.not_eq_true, hl]; omega) | (constructor <;> (intro hh; first | (rw [hl]; omega) | (have hh := hl.1 hh; omega))))) | fail
      · intro c27
        -- 14: (inT aX aY bX bY cX cY dX dY) = false
        first | rfl | omega | (have hz := sgn_zero' (trn aX aY bX bY cX cY); have hb := sgn_bd' (trn aX aY bX bY cX cY); first | omega | (have hn : trn aX aY bX bY cX cY = 0 := (by omega); have hl := inT_line (dX := dX) (dY := dY) hn; first | (rw [hl]; unfold lineS eqP; simp_all; done) | (simp only [hl, lineS, eqP]; simp_all; done) | (simp only [hl, lineS, eqP]; simp_all; omega)) | (have hn : trn aX aY bX bY cX cY ≠ 0 := (by omega); have hl := inT_side (dX := dX) (dY := dY) hn; first | (rw [hl]; omega) | (rw [← Bool.not_eq_true, hl]; omega) | (constructor <;> (intro hh; first | (rw [hl]; omega) | (have hh := hl.1 hh; omega))))) | fail
    · intro c28
      -- 15: (inT aX aY bX bY cX cY dX dY) = false
      first | rfl | omega | (have hz := sgn_zero' (trn aX aY bX bY cX cY); have hb := sgn_bd' (trn aX aY bX bY cX cY); first | omega | (have hn : trn aX aY bX bY cX cY = 0 := (by omega); have hl := inT_line (dX := dX) (dY := dY) hn; first | (rw [hl]; unfold lineS eqP; simp_all; done) | (simp only [hl, lineS, eqP]; simp_all; done) | (simp only [hl, lineS, eqP]; simp_all; omega)) | (have hn : trn aX aY bX bY cX cY ≠ 0 := (by omega); have hl := inT_side (dX := dX) (dY := dY) hn; first | (rw [hl]; omega) | (rw [← Bool.not_eq_true, hl]; omega) | (constructor <;> (intro hh; first | (rw [hl]; omega) | (have hh := hl.1 hh; omega))))) | fail
def c_s_inTriangle (aX : Int) (aY : Int) (bX : Int) (bY : Int) (cX : Int) (cY : Int) (dX : Int) (dY : Int) : Cn Try.prog := ⟨_, _, _, _, _, s_inTriangle aX aY bX bY cX cY dX dY⟩
theorem s_InTriangle (aX : Int) (aY : Int) (bX : Int) (bY : Int) (cX : Int) (cY : Int) (dX : Int) (dY : Int) : RunsTo Try.prog 12 [(.agg [(.int .i64 (.v fun _ => aX) (-4000) 4000), (.int .i64 (.v fun _ => aY) (-4000) 4000)]), (.agg [(.int .i64 (.v fun _ => bX) (-4000) 4000), (.int .i64 (.v fun _ => bY) (-4000) 4000)]), (.agg [(.int .i64 (.v fun _ => cX) (-4000) 4000), (.int .i64 (.v fun _ => cY) (-4000) 4000)]), (.agg [(.int .i64 (.v fun _ => dX) (-4000) 4000), (.int .i64 (.v fun _ => dY) (-4000) 4000)])] [] (.bool (.v fun _ => inTri aX aY bX bY cX cY dX dY)) [] := by
  refine RunsTo.go env Try.func12 rfl Try.call12 rfl rfl (fun _ _ => (.call (c_s_validPoint aX aY) (.ite (.call (c_s_validPoint bX bY) (.ite (.call (c_s_validPoint cX cY) (.ite (.call (c_s_validPoint dX dY) (.ite (.call (c_s_inTriangle aX aY bX bY cX cY dX dY) .ret) .ret)) .ret)) .ret)) .ret))) (G := ((((-4000) ≤ aX ∧ aX ≤ 4000) ∧ ((-4000) ≤ aY ∧ aY ≤ 4000)) ∧ ((((-4000) ≤ bX ∧ bX ≤ 4000) ∧ ((-4000) ≤ bY ∧ bY ≤ 4000)) ∧ ((((-4000) ≤ cX ∧ cX ≤ 4000) ∧ ((-4000) ≤ cY ∧ cY ≤ 4000)) ∧ (((-4000) ≤ dX ∧ dX ≤ 4000) ∧ ((-4000) ≤ dY ∧ dY ≤ 4000))))) → (True) → (((aX = aX) ∧ (aY = aY)) ∧ ((((okP aX aY) = true) → (((bX = bX) ∧ (bY = bY)) ∧ ((((okP bX bY) = true) → (((cX = cX) ∧ (cY = cY)) ∧ ((((okP cX cY) = true) → (((dX = dX) ∧ (dY = dY)) ∧ ((((okP dX dY) = true) → (((((aX = aX) ∧ (((-4000) ≤ aX ∧ aX ≤ 4000) → ((-2002) ≤ aX ∧ aX ≤ 2002))) ∧ ((aY = aY) ∧ (((-4000) ≤ aY ∧ aY ≤ 4000) → ((-2002) ≤ aY ∧ aY ≤ 2002)))) ∧ ((((bX = bX) ∧ (((-4000) ≤ bX ∧ bX ≤ 4000) → ((-2002) ≤ bX ∧ bX ≤ 2002))) ∧ ((bY = bY) ∧ (((-4000) ≤ bY ∧ bY ≤ 4000) → ((-2002) ≤ bY ∧ bY ≤ 2002)))) ∧ ((((cX = cX) ∧ (((-4000) ≤ cX ∧ cX ≤ 4000) → ((-2002) ≤ cX ∧ cX ≤ 2002))) ∧ ((cY = cY) ∧ (((-4000) ≤ cY ∧ cY ≤ 4000) → ((-2002) ≤ cY ∧ cY ≤ 2002)))) ∧ (((dX = dX) ∧ (((-4000) ≤ dX ∧ dX ≤ 4000) → ((-2002) ≤ dX ∧ dX ≤ 2002))) ∧ ((dY = dY) ∧ (((-4000) ≤ dY ∧ dY ≤ 4000) → ((-2002) ≤ dY ∧ dY ≤ 2002))))))) ∧ (((inT aX aY bX bY cX cY dX dY) = true) ↔ ((inTri aX aY bX bY cX cY dX dY) = true)))) ∧ (((okP dX dY) = false) → ((inTri aX aY bX bY cX cY dX dY) = false))))) ∧ (((okP cX cY) = false) → ((inTri aX aY bX bY cX cY dX dY) = false))))) ∧ (((okP bX bY) = false) → ((inTri aX aY bX bY cX cY dX dY) = false))))) ∧ (((okP aX aY) = false) → ((inTri aX aY bX bY cX cY dX dY) = false))))) (by kernel_rfl) ?_
  intro h1 h2
  refine ⟨⟨rfl, rfl⟩, ?_, ?_⟩
  · intro c1
    refine ⟨⟨rfl, rfl⟩, ?_, ?_⟩
    · intro c2
      refine ⟨⟨rfl, rfl⟩, ?_, ?_⟩
      · intro c3
        refine ⟨⟨rfl, rfl⟩, ?_, ?_⟩
        · intro c4
          refine ⟨?_, ?_⟩
          · refine ⟨?_, ?_, ?_, ?_, rfl, ?_⟩
            · refine ⟨?_, rfl, ?_⟩
              · refine ⟨rfl, ?_⟩
                intro c5
                -- 1: (-2002) ≤ aX ∧ aX ≤ 2002
                first | rfl | omega | (have b1 := okP_iff.1 (show okP aX aY = true by assumption); have b2 := okP_iff.1 (show okP bX bY = true by assumption); have b3 := okP_iff.1 (show okP cX cY = true by assumption); have b4 := okP_iff.1 (show okP dX dY = true by assumption); omega) | (simp_all [inTri]; done) | fail
              · intro c6
                -- 2: (-2002) ≤ aY ∧ aY ≤ 2002
                first | rfl | omega | (have b1 := okP_iff.1 (show okP aX aY = true by assumption); have b2 := okP_iff.1 (show okP bX bY = true by assumption); have b3 := okP_iff.1 (show okP cX cY = true by assumption); have b4 := okP_iff.1 (show okP dX dY = true by assumption); omega) | (simp_all [inTri]; done) | fail
            · refine ⟨?_, rfl, ?_⟩
              · refine ⟨rfl, ?_⟩
                intro c7
                -- 3: (-2002) ≤ bX ∧ bX ≤ 2002
                first | rfl | omega | (have b1 := okP_iff.1 (show okP aX aY = true by assumption); have b2 := okP_iff.1 (show okP bX bY = true by assumption); have b3 := okP_iff.1 (show okP cX cY = true by assumption); have b4 := okP_iff.1 (show okP dX dY = true by assumption); omega) | (simp_all [inTri]; done) | fail
              · intro c8
                -- 4: (-2002) ≤ bY ∧ bY ≤ 2002
                first | rfl | omega | (have b1 := okP_iff.1 (show okP aX aY = true by assumption); have b2 := okP_iff.1 (show okP bX bY = true by assumption); have b3 := okP_iff.1 (show okP cX cY = true by assumption); have b4 := okP_iff.1 (show okP dX dY = true by assumption); omega) | (simp_all [inTri]; done) | fail
            · refine ⟨?_, rfl, ?_⟩
              · refine ⟨rfl, ?_⟩
                intro c9
                -- 5: (-2002) ≤ cX ∧ cX ≤ 2002
                first | rfl | omega | (have b1 := okP_iff.1 (show okP aX aY = true by assumption); have b2 := okP_iff.1 (show okP bX bY = true by assumption); have b3 := okP_iff.1 (show okP cX cY = true by assumption); have b4 := okP_iff.1 (show okP dX dY = true by assumption); omega) | (simp_all [inTri]; done) | fail
              · intro c10
                -- 6: (-2002) ≤ cY ∧ cY ≤ 2002
                first | rfl | omega | (have b1 := okP_iff.1 (show okP aX aY = true by assumption); have b2 := okP_iff.1 (show okP bX bY = true by assumption); have b3 := okP_iff.1 (show okP cX cY = true by assumption); have b4 := okP_iff.1 (show okP dX dY = true by assumption); omega) | (simp_all [inTri]; done) | fail
            · refine ⟨rfl, ?_⟩
              intro c11
              -- 7: (-2002) ≤ dX ∧ dX ≤ 2002
              first | rfl | omega | (have b1 := okP_iff.1 (show okP aX aY = true by assumption); have b2 := okP_iff.1 (show okP bX bY = true by assumption); have b3 := okP_iff.1 (show okP cX cY = true by assumption); have b4 := okP_iff.1 (show okP dX dY = true by assumption); omega) | (simp_all [inTri]; done) | fail
            · intro c12
              -- 8: (-2002) ≤ dY ∧ dY ≤ 2002
              first | rfl | omega | (have b1 := okP_iff.1 (show okP aX aY = true by assumption); have b2 := okP_iff.1 (show okP bX bY = true by assumption); have b3 := okP_iff.1 (show okP cX cY = true by assumption); have b4 := okP_iff.1 (show okP dX dY = true by assumption); omega) | (simp_all [inTri]; done) | fail
            -- 9: ((inT aX aY bX bY cX cY dX dY) = true) ↔ ((inTri aX aY bX bY cX cY dX dY) = true)
          · first | rfl | omega | (have b1 := okP_iff.1 (show okP aX aY = true by assumption); have b2 := okP_iff.1 (show okP bX bY = true by assumption); have b3 := okP_iff.1 (show okP cX cY = true by assumption); have b4 := okP_iff.1 (show okP dX dY = true by assumption); omega) | (simp_all [inTri]; done) | fail
        · intro c13
          -- 10: (inTri aX aY bX bY cX cY dX dY) = false
          first | rfl | omega | (have b1 := okP_iff.1 (show okP aX aY = true by assumption); have b2 := okP_iff.1 (show okP bX bY = true by assumption); have b3 := okP_iff.1 (show okP cX cY = true by assumption); have b4 := okP_iff.1 (show okP dX dY = true by assumption); omega) | (simp_all [inTri]; done) | fail
      · intro c14
        -- 11: (inTri aX aY bX bY cX cY dX dY) = false
        first | rfl | omega | (have b1 := okP_iff.1 (show okP aX aY = true by assumption); have b2 := okP_iff.1 (show okP bX bY = true by assumption); have b3 := okP_iff.1 (show okP cX cY = true by assumption); have b4 := okP_iff.1 (show okP dX dY = true by assumption); omega) | (simp_all [inTri]; done) | fail
    · intro c15
      -- 12: (inTri aX aY bX bY cX cY dX dY) = false
      first | rfl | omega | (have b1 := okP_iff.1 (show okP aX aY = true by assumption); have b2 := okP_iff.1 (show okP bX bY = true by assumption); have b3 := okP_iff.1 (show okP cX cY = true by assumption); have b4 := okP_iff.1 (show okP dX dY = true by assumption); omega) | (simp_all [inTri]; done) | fail
  · intro c16
    -- 13: (inTri aX aY bX bY cX cY dX dY) = false
    first | rfl | omega | (have b1 := okP_iff.1 (show okP aX aY = true by assumption); have b2 := okP_iff.1 (show okP bX bY = true by assumption); have b3 := okP_iff.1 (show okP cX cY = true by assumption); have b4 := okP_iff.1 (show okP dX dY = true by assumption); omega) | (simp_all [inTri]; done) | fail
def c_s_InTriangle (aX : Int) (aY : Int) (bX : Int) (bY : Int) (cX : Int) (cY : Int) (dX : Int) (dY : Int) : Cn Try.prog := ⟨_, _, _, _, _, s_InTriangle aX aY bX bY cX cY dX dY⟩
end Go.Proofs.Ytnombddkojljdaa
