/- Circles and triangles. -/
import Derived.Test.YtnombddkojljdaaK14
set_option linter.unusedSimpArgs false
set_option linter.unusedVariables false
set_option maxRecDepth 100000
namespace Go.Proofs.Ytnombddkojljdaa
open Go.Sym
theorem allB4 (q : Int → Bool) : allB q 4 = (q 0 && (q 1 && (q 2 && q 3))) := by simp [allB, List.range_succ]
def circ (aX aY bX bY cX cY dX dY : Int) : Int :=
  ((aX - dX) * (aX - dX) + (aY - dY) * (aY - dY)) * ((bX - dX) * (cY - dY) - (bY - dY) * (cX - dX)) +
  ((bX - dX) * (bX - dX) + (bY - dY) * (bY - dY)) * ((cX - dX) * (aY - dY) - (cY - dY) * (aX - dX)) +
  ((cX - dX) * (cX - dX) + (cY - dY) * (cY - dY)) * ((aX - dX) * (bY - dY) - (aY - dY) * (bX - dX))
def inc (aX aY bX bY cX cY dX dY : Int) : Int :=
  if okP aX aY && okP bX bY && okP cX cY && okP dX dY && !decide (trn aX aY bX bY cX cY = 0) then sgn (circ aX aY bX bY cX cY dX dY) * sgn (trn aX aY bX bY cX cY) else 2
def inT (aX aY bX bY cX cY dX dY : Int) : Bool :=
  if trn aX aY bX bY cX cY = 0 then onB aX aY bX bY dX dY || onB bX bY cX cY dX dY || onB cX cY aX aY dX dY
  else decide (0 ≤ sgn (trn aX aY bX bY cX cY) * trn aX aY bX bY dX dY) && decide (0 ≤ sgn (trn aX aY bX bY cX cY) * trn bX bY cX cY dX dY) && decide (0 ≤ sgn (trn aX aY bX bY cX cY) * trn cX cY aX aY dX dY)
def inTri (aX aY bX bY cX cY dX dY : Int) : Bool := okP aX aY && okP bX bY && okP cX cY && okP dX dY && inT aX aY bX bY cX cY dX dY
theorem sgn_zero' (n : Int) : sgn n = 0 ↔ n = 0 := by unfold sgn; split <;> (try split) <;> constructor <;> intro <;> omega
theorem sgn_bd' (n : Int) : -1 ≤ sgn n ∧ sgn n ≤ 1 := by unfold sgn; split <;> (try split) <;> omega
theorem s_inc (aX aY bX bY cX cY dX dY : Int) : ((ornt aX aY bX bY cX cY = 0 ∨ ornt aX aY bX bY cX cY = 2 ∨ okP dX dY = false) → inc aX aY bX bY cX cY dX dY = 2) ∧
    (ornt aX aY bX bY cX cY ≠ 0 → ornt aX aY bX bY cX cY ≠ 2 → okP dX dY = true → inc aX aY bX bY cX cY dX dY = sgn (circ aX aY bX bY cX cY dX dY) * ornt aX aY bX bY cX cY ∧ -1 ≤ inc aX aY bX bY cX cY dX dY ∧ inc aX aY bX bY cX cY dX dY ≤ 1) := by
  by_cases h : (okP aX aY && okP bX bY && okP cX cY) = true
  · have e : ornt aX aY bX bY cX cY = sgn (trn aX aY bX bY cX cY) := if_pos h
    have hz := sgn_zero' (trn aX aY bX bY cX cY)
    have hb := sgn_bd' (trn aX aY bX bY cX cY)
    have hb2 := sgn_bd' (circ aX aY bX bY cX cY dX dY)
    rw [e]
    unfold inc
    rw [h]
    constructor
    · rintro (h | h | h)
      · rw [hz] at h; simp [h]
      · omega
      · simp [h]
    · intro h1 h2 h3
      rw [Ne, hz] at h1
      rw [h3, decide_eq_false h1]
      refine ⟨rfl, ?_⟩
      have m := mul_bd (sgn (circ aX aY bX bY cX cY dX dY)) (sgn (trn aX aY bX bY cX cY)) 1 1 (by omega) (by omega) (by omega) (by omega)
      simp only [Bool.not_false, Bool.and_self, if_true]
      omega
  · have e : ornt aX aY bX bY cX cY = 2 := if_neg h
    rw [e]
    refine ⟨fun _ => ?_, fun _ h2 => absurd rfl h2⟩
    unfold inc
    rw [Bool.not_eq_true] at h
    rw [h]; rfl
theorem ornt_ok {aX aY bX bY cX cY : Int} (ha : okP aX aY = true) (hb : okP bX bY = true) (hc : okP cX cY = true) : ornt aX aY bX bY cX cY = sgn (trn aX aY bX bY cX cY) := by
  unfold ornt; rw [ha, hb, hc]; rfl
theorem i_inc {aX aY bX bY cX cY dX dY : Int} (h : allB (fun i => okP (selL [aX, bX, cX, dX] i) (selL [aY, bY, cY, dY] i)) 4 = true) : okP aX aY = true ∧ okP bX bY = true ∧ okP cX cY = true ∧ okP dX dY = true := by
  rw [allB4] at h
  simpa [selL] using h
theorem i_inc2 {aX aY bX bY cX cY dX dY : Int} (h : allB (fun i => okP (selL [aX, bX, cX, dX] i) (selL [aY, bY, cY, dY] i)) 4 = false) : inc aX aY bX bY cX cY dX dY = 2 ∧ inTri aX aY bX bY cX cY dX dY = false := by
  rw [allB4] at h
  have h' : (okP aX aY && (okP bX bY && (okP cX cY && okP dX dY))) = false := by simpa [selL] using h
  have e : (okP aX aY && okP bX bY && okP cX cY && okP dX dY) = false := by rw [← h']; simp only [Bool.and_assoc]
  unfold inc inTri
  rw [e]; exact ⟨rfl, rfl⟩
theorem i_inTriangle (aX : Int) (aY : Int) (bX : Int) (bY : Int) (cX : Int) (cY : Int) (dX : Int) (dY : Int) : RunsTo Try.prog 31 [(.agg [(.int .i64 (.v fun _ => aX) (-2002) 2002), (.int .i64 (.v fun _ => aY) (-2002) 2002)]), (.agg [(.int .i64 (.v fun _ => bX) (-2002) 2002), (.int .i64 (.v fun _ => bY) (-2002) 2002)]), (.agg [(.int .i64 (.v fun _ => cX) (-2002) 2002), (.int .i64 (.v fun _ => cY) (-2002) 2002)]), (.agg [(.int .i64 (.v fun _ => dX) (-2002) 2002), (.int .i64 (.v fun _ => dY) (-2002) 2002)])] [] (.bool (.v fun _ => inT aX aY bX bY cX cY dX dY)) [] := by
  refine RunsTo.go env Try.func31 rfl Try.call31 rfl rfl (fun _ _ => (.call (c_i_turn aX aY bX bY cX cY) (.call (c_i_sign (trn aX aY bX bY cX cY)) (.ite (.call (c_i_has aX aY bX bY dX dY) (.ite .ret (.call (c_i_has bX bY cX cY dX dY) (.ite .ret (.call (c_i_has cX cY aX aY dX dY) .ret))))) (.call (c_i_turn aX aY bX bY dX dY) (.ite (.call (c_i_turn bX bY cX cY dX dY) (.ite (.call (c_i_turn cX cY aX aY dX dY) .ret) .ret)) .ret)))))) (G := ((((-2002) ≤ aX ∧ aX ≤ 2002) ∧ ((-2002) ≤ aY ∧ aY ≤ 2002)) ∧ ((((-2002) ≤ bX ∧ bX ≤ 2002) ∧ ((-2002) ≤ bY ∧ bY ≤ 2002)) ∧ ((((-2002) ≤ cX ∧ cX ≤ 2002) ∧ ((-2002) ≤ cY ∧ cY ≤ 2002)) ∧ (((-2002) ≤ dX ∧ dX ≤ 2002) ∧ ((-2002) ≤ dY ∧ dY ≤ 2002))))) → (True) → ((((aX = aX) ∧ (aY = aY)) ∧ (((bX = bX) ∧ (bY = bY)) ∧ ((cX = cX) ∧ (cY = cY)))) ∧ (((trn aX aY bX bY cX cY) = (trn aX aY bX bY cX cY)) ∧ ((((sgn (trn aX aY bX bY cX cY)) = 0) → ((((aX = aX) ∧ ((aY = aY) ∧ ((bX = bX) ∧ (bY = bY)))) ∧ ((dX = dX) ∧ (dY = dY))) ∧ ((((onB aX aY bX bY dX dY) = true) → ((inT aX aY bX bY cX cY dX dY) = true)) ∧ (((onB aX aY bX bY dX dY) = false) → ((((bX = bX) ∧ ((bY = bY) ∧ ((cX = cX) ∧ (cY = cY)))) ∧ ((dX = dX) ∧ (dY = dY))) ∧ ((((onB bX bY cX cY dX dY) = true) → ((inT aX aY bX bY cX cY dX dY) = true)) ∧ (((onB bX bY cX cY dX dY) = false) → ((((cX = cX) ∧ ((cY = cY) ∧ ((aX = aX) ∧ (aY = aY)))) ∧ ((dX = dX) ∧ (dY = dY))) ∧ (((onB cX cY aX aY dX dY) = true) ↔ ((inT aX aY bX bY cX cY dX dY) = true)))))))))) ∧ (((sgn (trn aX aY bX bY cX cY)) ≠ 0) → ((((aX = aX) ∧ (aY = aY)) ∧ (((bX = bX) ∧ (bY = bY)) ∧ ((dX = dX) ∧ (dY = dY)))) ∧ (((0 ≤ ((sgn (trn aX aY bX bY cX cY)) * (trn aX aY bX bY dX dY))) → ((((bX = bX) ∧ (bY = bY)) ∧ (((cX = cX) ∧ (cY = cY)) ∧ ((dX = dX) ∧ (dY = dY)))) ∧ (((0 ≤ ((sgn (trn aX aY bX bY cX cY)) * (trn bX bY cX cY dX dY))) → ((((cX = cX) ∧ (cY = cY)) ∧ (((aX = aX) ∧ (aY = aY)) ∧ ((dX = dX) ∧ (dY = dY)))) ∧ ((0 ≤ ((sgn (trn aX aY bX bY cX cY)) * (trn cX cY aX aY dX dY))) ↔ ((inT aX aY bX bY cX cY dX dY) = true)))) ∧ ((((sgn (trn aX aY bX bY cX cY)) * (trn bX bY cX cY dX dY)) < 0) → ((inT aX aY bX bY cX cY dX dY) = false))))) ∧ ((((sgn (trn aX aY bX bY cX cY)) * (trn aX aY bX bY dX dY)) < 0) → ((inT aX aY bX bY cX cY dX dY) = false))))))))) (by kernel_rfl) ?_
  intro h1 h2
  refine ⟨⟨⟨rfl, rfl⟩, ⟨⟨rfl, rfl⟩, ⟨rfl, rfl⟩⟩⟩, rfl, ?_, ?_⟩
  · intro c1
    refine ⟨⟨⟨rfl, ⟨rfl, ⟨rfl, rfl⟩⟩⟩, ⟨rfl, rfl⟩⟩, ?_, ?_⟩
    · intro c2
      -- 1: (inT aX aY bX bY cX cY dX dY) = true
      first | rfl | omega | (have hz := sgn_zero' (trn aX aY bX bY cX cY); have hb := sgn_bd' (trn aX aY bX bY cX cY); first | omega | (simp_all [inT]; done) | (have hn : trn aX aY bX bY cX cY ≠ 0 := (by omega); simp only [inT, if_neg hn, Bool.and_eq_false_iff, Bool.and_eq_true, decide_eq_false_iff_not, decide_eq_true_eq]; omega) | (have hn : trn aX aY bX bY cX cY = 0 := (by omega); simp only [inT, if_pos hn]; simp_all; done)) | fail
    · intro c3
      refine ⟨⟨⟨rfl, ⟨rfl, ⟨rfl, rfl⟩⟩⟩, ⟨rfl, rfl⟩⟩, ?_, ?_⟩
      · intro c4
        -- 2: (inT aX aY bX bY cX cY dX dY) = true
        first | rfl | omega | (have hz := sgn_zero' (trn aX aY bX bY cX cY); have hb := sgn_bd' (trn aX aY bX bY cX cY); first | omega | (simp_all [inT]; done) | (have hn : trn aX aY bX bY cX cY ≠ 0 := (by omega); simp only [inT, if_neg hn, Bool.and_eq_false_iff, Bool.and_eq_true, decide_eq_false_iff_not, decide_eq_true_eq]; omega) | (have hn : trn aX aY bX bY cX cY = 0 := (by omega); simp only [inT, if_pos hn]; simp_all; done)) | fail
      · intro c5
        refine ⟨⟨⟨rfl, ⟨rfl, ⟨rfl, rfl⟩⟩⟩, ⟨rfl, rfl⟩⟩, ?_⟩
        -- 3: ((onB cX cY aX aY dX dY) = true) ↔ ((inT aX aY bX bY cX cY dX dY) = true)
        first | rfl | omega | (have hz := sgn_zero' (trn aX aY bX bY cX cY); have hb := sgn_bd' (trn aX aY bX bY cX cY); first | omega | (simp_all [inT]; done) | (have hn : trn aX aY bX bY cX cY ≠ 0 := (by omega); simp only [inT, if_neg hn, Bool.and_eq_false_iff, Bool.and_eq_true, decide_eq_false_iff_not, decide_eq_true_eq]; omega) | (have hn : trn aX aY bX bY cX cY = 0 := (by omega); simp only [inT, if_pos hn]; simp_all; done)) | fail
  · intro c6
    refine ⟨⟨⟨rfl, rfl⟩, ⟨⟨rfl, rfl⟩, ⟨rfl, rfl⟩⟩⟩, ?_, ?_⟩
    · intro c7
      refine ⟨⟨⟨rfl, rfl⟩, ⟨⟨rfl, rfl⟩, ⟨rfl, rfl⟩⟩⟩, ?_, ?_⟩
      · intro c8
        refine ⟨⟨⟨rfl, rfl⟩, ⟨⟨rfl, rfl⟩, ⟨rfl, rfl⟩⟩⟩, ?_⟩
        -- 4: (0 ≤ ((sgn (trn aX aY bX bY cX cY)) * (trn cX cY aX aY dX dY))) ↔ ((inT aX aY bX bY cX cY dX dY) = t
        first | rfl | omega | (have hz := sgn_zero' (trn aX aY bX bY cX cY); have hb := sgn_bd' (trn aX aY bX bY cX cY); first | omega | (simp_all [inT]; done) | (have hn : trn aX aY bX bY cX cY ≠ 0 := (by omega); simp only [inT, if_neg hn, Bool.and_eq_false_iff, Bool.and_eq_true, decide_eq_false_iff_not, decide_eq_true_eq]; omega) | (have hn : trn aX aY bX bY cX cY = 0 := (by omega); simp only [inT, if_pos hn]; simp_all; done)) | fail
      · intro c9
        -- 5: (inT aX aY bX bY cX cY dX dY) = false
        first | rfl | omega | (have hz := sgn_zero' (trn aX aY bX bY cX cY); have hb := sgn_bd' (trn aX aY bX bY cX cY); first | omega | (simp_all [inT]; done) | (have hn : trn aX aY bX bY cX cY ≠ 0 := (by omega); simp only [inT, if_neg hn, Bool.and_eq_false_iff, Bool.and_eq_true, decide_eq_false_iff_not, decide_eq_true_eq]; omega) | (have hn : trn aX aY bX bY cX cY = 0 := (by omega); simp only [inT, if_pos hn]; simp_all; done)) | fail
    · intro c10
      -- 6: (inT aX aY bX bY cX cY dX dY) = false
      first | rfl | omega | (have hz := sgn_zero' (trn aX aY bX bY cX cY); have hb := sgn_bd' (trn aX aY bX bY cX cY); first | omega | (simp_all [inT]; done) | (have hn : trn aX aY bX bY cX cY ≠ 0 := (by omega); simp only [inT, if_neg hn, Bool.and_eq_false_iff, Bool.and_eq_true, decide_eq_false_iff_not, decide_eq_true_eq]; omega) | (have hn : trn aX aY bX bY cX cY = 0 := (by omega); simp only [inT, if_pos hn]; simp_all; done)) | fail
def c_i_inTriangle (aX : Int) (aY : Int) (bX : Int) (bY : Int) (cX : Int) (cY : Int) (dX : Int) (dY : Int) : Cn Try.prog := ⟨_, _, _, _, _, i_inTriangle aX aY bX bY cX cY dX dY⟩
theorem i_InTriangle (aX : Int) (aY : Int) (bX : Int) (bY : Int) (cX : Int) (cY : Int) (dX : Int) (dY : Int) : RunsTo Try.prog 10 [(.agg [(.int .i64 (.v fun _ => aX) (-4000) 4000), (.int .i64 (.v fun _ => aY) (-4000) 4000)]), (.agg [(.int .i64 (.v fun _ => bX) (-4000) 4000), (.int .i64 (.v fun _ => bY) (-4000) 4000)]), (.agg [(.int .i64 (.v fun _ => cX) (-4000) 4000), (.int .i64 (.v fun _ => cY) (-4000) 4000)]), (.agg [(.int .i64 (.v fun _ => dX) (-4000) 4000), (.int .i64 (.v fun _ => dY) (-4000) 4000)])] [] (.bool (.v fun _ => inTri aX aY bX bY cX cY dX dY)) [] := by
  refine RunsTo.go env Try.func10 rfl Try.call10 rfl rfl (fun _ _ => (.call (c_i_allValid (selL [aX, bX, cX, dX]) (selL [aY, bY, cY, dY]) 4) (.ite (.call (c_i_inTriangle aX aY bX bY cX cY dX dY) .ret) .ret))) (G := ((((-4000) ≤ aX ∧ aX ≤ 4000) ∧ ((-4000) ≤ aY ∧ aY ≤ 4000)) ∧ ((((-4000) ≤ bX ∧ bX ≤ 4000) ∧ ((-4000) ≤ bY ∧ bY ≤ 4000)) ∧ ((((-4000) ≤ cX ∧ cX ≤ 4000) ∧ ((-4000) ≤ cY ∧ cY ≤ 4000)) ∧ (((-4000) ≤ dX ∧ dX ≤ 4000) ∧ ((-4000) ≤ dY ∧ dY ≤ 4000))))) → (True) → (((4 : Int) = 4) ∧ ((((4 : Int) = 4) ∧ ((∀ e4 : E, ((e4.den = 0) → ((aX = (selL [aX, bX, cX, dX] (e4.den))) ∧ (aY = (selL [aY, bY, cY, dY] (e4.den)))))) ∧ ((∀ e3 : E, ((e3.den = 1) → ((bX = (selL [aX, bX, cX, dX] (e3.den))) ∧ (bY = (selL [aY, bY, cY, dY] (e3.den)))))) ∧ ((∀ e2 : E, ((e2.den = 2) → ((cX = (selL [aX, bX, cX, dX] (e2.den))) ∧ (cY = (selL [aY, bY, cY, dY] (e2.den)))))) ∧ (∀ e1 : E, ((e1.den = 3) → ((dX = (selL [aX, bX, cX, dX] (e1.den))) ∧ (dY = (selL [aY, bY, cY, dY] (e1.den)))))))))) ∧ ((((allB (fun i => okP (selL [aX, bX, cX, dX] i) (selL [aY, bY, cY, dY] i)) 4) = true) → (((((aX = aX) ∧ (((-4000) ≤ aX ∧ aX ≤ 4000) → ((-2002) ≤ aX ∧ aX ≤ 2002))) ∧ ((aY = aY) ∧ (((-4000) ≤ aY ∧ aY ≤ 4000) → ((-2002) ≤ aY ∧ aY ≤ 2002)))) ∧ ((((bX = bX) ∧ (((-4000) ≤ bX ∧ bX ≤ 4000) → ((-2002) ≤ bX ∧ bX ≤ 2002))) ∧ ((bY = bY) ∧ (((-4000) ≤ bY ∧ bY ≤ 4000) → ((-2002) ≤ bY ∧ bY ≤ 2002)))) ∧ ((((cX = cX) ∧ (((-4000) ≤ cX ∧ cX ≤ 4000) → ((-2002) ≤ cX ∧ cX ≤ 2002))) ∧ ((cY = cY) ∧ (((-4000) ≤ cY ∧ cY ≤ 4000) → ((-2002) ≤ cY ∧ cY ≤ 2002)))) ∧ (((dX = dX) ∧ (((-4000) ≤ dX ∧ dX ≤ 4000) → ((-2002) ≤ dX ∧ dX ≤ 2002))) ∧ ((dY = dY) ∧ (((-4000) ≤ dY ∧ dY ≤ 4000) → ((-2002) ≤ dY ∧ dY ≤ 2002))))))) ∧ (((inT aX aY bX bY cX cY dX dY) = true) ↔ ((inTri aX aY bX bY cX cY dX dY) = true)))) ∧ (((allB (fun i => okP (selL [aX, bX, cX, dX] i) (selL [aY, bY, cY, dY] i)) 4) = false) → ((inTri aX aY bX bY cX cY dX dY) = false)))))) (by kernel_rfl) ?_
  intro h1 h2
  refine ⟨rfl, ?_, ?_, ?_⟩
  · refine ⟨rfl, ?_, ?_, ?_, ?_⟩
    · intro e4
      intro c5
      refine ⟨?_, ?_⟩
        -- 1: aX = (selL [aX, bX, cX, dX] (e4.den))
      · first | rfl | omega | (simp_all [selL]; done) | (have ha := i_inc2 (aX := aX) (aY := aY) (bX := bX) (bY := bY) (cX := cX) (cY := cY) (dX := dX) (dY := dY) (by first | (simp_all; done) | fail); simp_all; done) | (have ha := i_inc (aX := aX) (aY := aY) (bX := bX) (bY := bY) (cX := cX) (cY := cY) (dX := dX) (dY := dY) (by assumption); have ho := ornt_ok ha.1 ha.2.1 ha.2.2.1; have hz := sgn_zero' (trn aX aY bX bY cX cY); have hb := sgn_bd' (trn aX aY bX bY cX cY); have hs := s_inc aX aY bX bY cX cY dX dY; simp only [ho] at hs; have e4 := ha.2.2.2; have b1 := okP_iff.1 ha.1; have b2 := okP_iff.1 ha.2.1; have b3 := okP_iff.1 ha.2.2.1; have b4 := okP_iff.1 e4; first | omega | (exact hs.1 (by omega)) | (exact (hs.1 (by omega)).symm) | (exact (hs.2 (by omega) (by omega) e4).1) | (exact (hs.2 (by omega) (by omega) e4).1.symm) | (simp_all [inTri]; done))
        -- 2: aY = (selL [aY, bY, cY, dY] (e4.den))
      · first | rfl | omega | (simp_all [selL]; done) | (have ha := i_inc2 (aX := aX) (aY := aY) (bX := bX) (bY := bY) (cX := cX) (cY := cY) (dX := dX) (dY := dY) (by first | (simp_all; done) | fail); simp_all; done) | (have ha := i_inc (aX := aX) (aY := aY) (bX := bX) (bY := bY) (cX := cX) (cY := cY) (dX := dX) (dY := dY) (by assumption); have ho := ornt_ok ha.1 ha.2.1 ha.2.2.1; have hz := sgn_zero' (trn aX aY bX bY cX cY); have hb := sgn_bd' (trn aX aY bX bY cX cY); have hs := s_inc aX aY bX bY cX cY dX dY; simp only [ho] at hs; have e4 := ha.2.2.2; have b1 := okP_iff.1 ha.1; have b2 := okP_iff.1 ha.2.1; have b3 := okP_iff.1 ha.2.2.1; have b4 := okP_iff.1 e4; first | omega | (exact hs.1 (by omega)) | (exact (hs.1 (by omega)).symm) | (exact (hs.2 (by omega) (by omega) e4).1) | (exact (hs.2 (by omega) (by omega) e4).1.symm) | (simp_all [inTri]; done))
    · intro e3
      intro c6
      refine ⟨?_, ?_⟩
        -- 3: bX = (selL [aX, bX, cX, dX] (e3.den))
      · first | rfl | omega | (simp_all [selL]; done) | (have ha := i_inc2 (aX := aX) (aY := aY) (bX := bX) (bY := bY) (cX := cX) (cY := cY) (dX := dX) (dY := dY) (by first | (simp_all; done) | fail); simp_all; done) | (have ha := i_inc (aX := aX) (aY := aY) (bX := bX) (bY := bY) (cX := cX) (cY := cY) (dX := dX) (dY := dY) (by assumption); have ho := ornt_ok ha.1 ha.2.1 ha.2.2.1; have hz := sgn_zero' (trn aX aY bX bY cX cY); have hb := sgn_bd' (trn aX aY bX bY cX cY); have hs := s_inc aX aY bX bY cX cY dX dY; simp only [ho] at hs; have e4 := ha.2.2.2; have b1 := okP_iff.1 ha.1; have b2 := okP_iff.1 ha.2.1; have b3 := okP_iff.1 ha.2.2.1; have b4 := okP_iff.1 e4; first | omega | (exact hs.1 (by omega)) | (exact (hs.1 (by omega)).symm) | (exact (hs.2 (by omega) (by omega) e4).1) | (exact (hs.2 (by omega) (by omega) e4).1.symm) | (simp_all [inTri]; done))
        -- 4: bY = (selL [aY, bY, cY, dY] (e3.den))
      · first | rfl | omega | (simp_all [selL]; done) | (have ha := i_inc2 (aX := aX) (aY := aY) (bX := bX) (bY := bY) (cX := cX) (cY := cY) (dX := dX) (dY := dY) (by first | (simp_all; done) | fail); simp_all; done) | (have ha := i_inc (aX := aX) (aY := aY) (bX := bX) (bY := bY) (cX := cX) (cY := cY) (dX := dX) (dY := dY) (by assumption); have ho := ornt_ok ha.1 ha.2.1 ha.2.2.1; have hz := sgn_zero' (trn aX aY bX bY cX cY); have hb := sgn_bd' (trn aX aY bX bY cX cY); have hs := s_inc aX aY bX bY cX cY dX dY; simp only [ho] at hs; have e4 := ha.2.2.2; have b1 := okP_iff.1 ha.1; have b2 := okP_iff.1 ha.2.1; have b3 := okP_iff.1 ha.2.2.1; have b4 := okP_iff.1 e4; first | omega | (exact hs.1 (by omega)) | (exact (hs.1 (by omega)).symm) | (exact (hs.2 (by omega) (by omega) e4).1) | (exact (hs.2 (by omega) (by omega) e4).1.symm) | (simp_all [inTri]; done))
    · intro e2
      intro c7
      refine ⟨?_, ?_⟩
        -- 5: cX = (selL [aX, bX, cX, dX] (e2.den))
      · first | rfl | omega | (simp_all [selL]; done) | (have ha := i_inc2 (aX := aX) (aY := aY) (bX := bX) (bY := bY) (cX := cX) (cY := cY) (dX := dX) (dY := dY) (by first | (simp_all; done) | fail); simp_all; done) | (have ha := i_inc (aX := aX) (aY := aY) (bX := bX) (bY := bY) (cX := cX) (cY := cY) (dX := dX) (dY := dY) (by assumption); have ho := ornt_ok ha.1 ha.2.1 ha.2.2.1; have hz := sgn_zero' (trn aX aY bX bY cX cY); have hb := sgn_bd' (trn aX aY bX bY cX cY); have hs := s_inc aX aY bX bY cX cY dX dY; simp only [ho] at hs; have e4 := ha.2.2.2; have b1 := okP_iff.1 ha.1; have b2 := okP_iff.1 ha.2.1; have b3 := okP_iff.1 ha.2.2.1; have b4 := okP_iff.1 e4; first | omega | (exact hs.1 (by omega)) | (exact (hs.1 (by omega)).symm) | (exact (hs.2 (by omega) (by omega) e4).1) | (exact (hs.2 (by omega) (by omega) e4).1.symm) | (simp_all [inTri]; done))
        -- 6: cY = (selL [aY, bY, cY, dY] (e2.den))
      · first | rfl | omega | (simp_all [selL]; done) | (have ha := i_inc2 (aX := aX) (aY := aY) (bX := bX) (bY := bY) (cX := cX) (cY := cY) (dX := dX) (dY := dY) (by first | (simp_all; done) | fail); simp_all; done) | (have ha := i_inc (aX := aX) (aY := aY) (bX := bX) (bY := bY) (cX := cX) (cY := cY) (dX := dX) (dY := dY) (by assumption); have ho := ornt_ok ha.1 ha.2.1 ha.2.2.1; have hz := sgn_zero' (trn aX aY bX bY cX cY); have hb := sgn_bd' (trn aX aY bX bY cX cY); have hs := s_inc aX aY bX bY cX cY dX dY; simp only [ho] at hs; have e4 := ha.2.2.2; have b1 := okP_iff.1 ha.1; have b2 := okP_iff.1 ha.2.1; have b3 := okP_iff.1 ha.2.2.1; have b4 := okP_iff.1 e4; first | omega | (exact hs.1 (by omega)) | (exact (hs.1 (by omega)).symm) | (exact (hs.2 (by omega) (by omega) e4).1) | (exact (hs.2 (by omega) (by omega) e4).1.symm) | (simp_all [inTri]; done))
    · intro e1
      intro c8
      refine ⟨?_, ?_⟩
        -- 7: dX = (selL [aX, bX, cX, dX] (e1.den))
      · first | rfl | omega | (simp_all [selL]; done) | (have ha := i_inc2 (aX := aX) (aY := aY) (bX := bX) (bY := bY) (cX := cX) (cY := cY) (dX := dX) (dY := dY) (by first | (simp_all; done) | fail); simp_all; done) | (have ha := i_inc (aX := aX) (aY := aY) (bX := bX) (bY := bY) (cX := cX) (cY := cY) (dX := dX) (dY := dY) (by assumption); have ho := ornt_ok ha.1 ha.2.1 ha.2.2.1; have hz := sgn_zero' (trn aX aY bX bY cX cY); have hb := sgn_bd' (trn aX aY bX bY cX cY); have hs := s_inc aX aY bX bY cX cY dX dY; simp only [ho] at hs; have e4 := ha.2.2.2; have b1 := okP_iff.1 ha.1; have b2 := okP_iff.1 ha.2.1; have b3 := okP_iff.1 ha.2.2.1; have b4 := okP_iff.1 e4; first | omega | (exact hs.1 (by omega)) | (exact (hs.1 (by omega)).symm) | (exact (hs.2 (by omega) (by omega) e4).1) | (exact (hs.2 (by omega) (by omega) e4).1.symm) | (simp_all [inTri]; done))
        -- 8: dY = (selL [aY, bY, cY, dY] (e1.den))
      · first | rfl | omega | (simp_all [selL]; done) | (have ha := i_inc2 (aX := aX) (aY := aY) (bX := bX) (bY := bY) (cX := cX) (cY := cY) (dX := dX) (dY := dY) (by first | (simp_all; done) | fail); simp_all; done) | (have ha := i_inc (aX := aX) (aY := aY) (bX := bX) (bY := bY) (cX := cX) (cY := cY) (dX := dX) (dY := dY) (by assumption); have ho := ornt_ok ha.1 ha.2.1 ha.2.2.1; have hz := sgn_zero' (trn aX aY bX bY cX cY); have hb := sgn_bd' (trn aX aY bX bY cX cY); have hs := s_inc aX aY bX bY cX cY dX dY; simp only [ho] at hs; have e4 := ha.2.2.2; have b1 := okP_iff.1 ha.1; have b2 := okP_iff.1 ha.2.1; have b3 := okP_iff.1 ha.2.2.1; have b4 := okP_iff.1 e4; first | omega | (exact hs.1 (by omega)) | (exact (hs.1 (by omega)).symm) | (exact (hs.2 (by omega) (by omega) e4).1) | (exact (hs.2 (by omega) (by omega) e4).1.symm) | (simp_all [inTri]; done))
  · intro c9
    refine ⟨?_, ?_⟩
    · refine ⟨?_, ?_, ?_, ?_, rfl, ?_⟩
      · refine ⟨?_, rfl, ?_⟩
        · refine ⟨rfl, ?_⟩
          intro c10
          -- 9: (-2002) ≤ aX ∧ aX ≤ 2002
          first | rfl | omega | (simp_all [selL]; done) | (have ha := i_inc2 (aX := aX) (aY := aY) (bX := bX) (bY := bY) (cX := cX) (cY := cY) (dX := dX) (dY := dY) (by first | (simp_all; done) | fail); simp_all; done) | (have ha := i_inc (aX := aX) (aY := aY) (bX := bX) (bY := bY) (cX := cX) (cY := cY) (dX := dX) (dY := dY) (by assumption); have ho := ornt_ok ha.1 ha.2.1 ha.2.2.1; have hz := sgn_zero' (trn aX aY bX bY cX cY); have hb := sgn_bd' (trn aX aY bX bY cX cY); have hs := s_inc aX aY bX bY cX cY dX dY; simp only [ho] at hs; have e4 := ha.2.2.2; have b1 := okP_iff.1 ha.1; have b2 := okP_iff.1 ha.2.1; have b3 := okP_iff.1 ha.2.2.1; have b4 := okP_iff.1 e4; first | omega | (exact hs.1 (by omega)) | (exact (hs.1 (by omega)).symm) | (exact (hs.2 (by omega) (by omega) e4).1) | (exact (hs.2 (by omega) (by omega) e4).1.symm) | (simp_all [inTri]; done))
        · intro c11
          -- 10: (-2002) ≤ aY ∧ aY ≤ 2002
          first | rfl | omega | (simp_all [selL]; done) | (have ha := i_inc2 (aX := aX) (aY := aY) (bX := bX) (bY := bY) (cX := cX) (cY := cY) (dX := dX) (dY := dY) (by first | (simp_all; done) | fail); simp_all; done) | (have ha := i_inc (aX := aX) (aY := aY) (bX := bX) (bY := bY) (cX := cX) (cY := cY) (dX := dX) (dY := dY) (by assumption); have ho := ornt_ok ha.1 ha.2.1 ha.2.2.1; have hz := sgn_zero' (trn aX aY bX bY cX cY); have hb := sgn_bd' (trn aX aY bX bY cX cY); have hs := s_inc aX aY bX bY cX cY dX dY; simp only [ho] at hs; have e4 := ha.2.2.2; have b1 := okP_iff.1 ha.1; have b2 := okP_iff.1 ha.2.1; have b3 := okP_iff.1 ha.2.2.1; have b4 := okP_iff.1 e4; first | omega | (exact hs.1 (by omega)) | (exact (hs.1 (by omega)).symm) | (exact (hs.2 (by omega) (by omega) e4).1) | (exact (hs.2 (by omega) (by omega) e4).1.symm) | (simp_all [inTri]; done))
      · refine ⟨?_, rfl, ?_⟩
        · refine ⟨rfl, ?_⟩
          intro c12
          -- 11: (-2002) ≤ bX ∧ bX ≤ 2002
          first | rfl | omega | (simp_all [selL]; done) | (have ha := i_inc2 (aX := aX) (aY := aY) (bX := bX) (bY := bY) (cX := cX) (cY := cY) (dX := dX) (dY := dY) (by first | (simp_all; done) | fail); simp_all; done) | (have ha := i_inc (aX := aX) (aY := aY) (bX := bX) (bY := bY) (cX := cX) (cY := cY) (dX := dX) (dY := dY) (by assumption); have ho := ornt_ok ha.1 ha.2.1 ha.2.2.1; have hz := sgn_zero' (trn aX aY bX bY cX cY); have hb := sgn_bd' (trn aX aY bX bY cX cY); have hs := s_inc aX aY bX bY cX cY dX dY; simp only [ho] at hs; have e4 := ha.2.2.2; have b1 := okP_iff.1 ha.1; have b2 := okP_iff.1 ha.2.1; have b3 := okP_iff.1 ha.2.2.1; have b4 := okP_iff.1 e4; first | omega | (exact hs.1 (by omega)) | (exact (hs.1 (by omega)).symm) | (exact (hs.2 (by omega) (by omega) e4).1) | (exact (hs.2 (by omega) (by omega) e4).1.symm) | (simp_all [inTri]; done))
        · intro c13
          -- 12: (-2002) ≤ bY ∧ bY ≤ 2002
          first | rfl | omega | (simp_all [selL]; done) | (have ha := i_inc2 (aX := aX) (aY := aY) (bX := bX) (bY := bY) (cX := cX) (cY := cY) (dX := dX) (dY := dY) (by first | (simp_all; done) | fail); simp_all; done) | (have ha := i_inc (aX := aX) (aY := aY) (bX := bX) (bY := bY) (cX := cX) (cY := cY) (dX := dX) (dY := dY) (by assumption); have ho := ornt_ok ha.1 ha.2.1 ha.2.2.1; have hz := sgn_zero' (trn aX aY bX bY cX cY); have hb := sgn_bd' (trn aX aY bX bY cX cY); have hs := s_inc aX aY bX bY cX cY dX dY; simp only [ho] at hs; have e4 := ha.2.2.2; have b1 := okP_iff.1 ha.1; have b2 := okP_iff.1 ha.2.1; have b3 := okP_iff.1 ha.2.2.1; have b4 := okP_iff.1 e4; first | omega | (exact hs.1 (by omega)) | (exact (hs.1 (by omega)).symm) | (exact (hs.2 (by omega) (by omega) e4).1) | (exact (hs.2 (by omega) (by omega) e4).1.symm) | (simp_all [inTri]; done))
      · refine ⟨?_, rfl, ?_⟩
        · refine ⟨rfl, ?_⟩
          intro c14
          -- 13: (-2002) ≤ cX ∧ cX ≤ 2002
          first | rfl | omega | (simp_all [selL]; done) | (have ha := i_inc2 (aX := aX) (aY := aY) (bX := bX) (bY := bY) (cX := cX) (cY := cY) (dX := dX) (dY := dY) (by first | (simp_all; done) | fail); simp_all; done) | (have ha := i_inc (aX := aX) (aY := aY) (bX := bX) (bY := bY) (cX := cX) (cY := cY) (dX := dX) (dY := dY) (by assumption); have ho := ornt_ok ha.1 ha.2.1 ha.2.2.1; have hz := sgn_zero' (trn aX aY bX bY cX cY); have hb := sgn_bd' (trn aX aY bX bY cX cY); have hs := s_inc aX aY bX bY cX cY dX dY; simp only [ho] at hs; have e4 := ha.2.2.2; have b1 := okP_iff.1 ha.1; have b2 := okP_iff.1 ha.2.1; have b3 := okP_iff.1 ha.2.2.1; have b4 := okP_iff.1 e4; first | omega | (exact hs.1 (by omega)) | (exact (hs.1 (by omega)).symm) | (exact (hs.2 (by omega) (by omega) e4).1) | (exact (hs.2 (by omega) (by omega) e4).1.symm) | (simp_all [inTri]; done))
        · intro c15
          -- 14: (-2002) ≤ cY ∧ cY ≤ 2002
          first | rfl | omega | (simp_all [selL]; done) | (have ha := i_inc2 (aX := aX) (aY := aY) (bX := bX) (bY := bY) (cX := cX) (cY := cY) (dX := dX) (dY := dY) (by first | (simp_all; done) | fail); simp_all; done) | (have ha := i_inc (aX := aX) (aY := aY) (bX := bX) (bY := bY) (cX := cX) (cY := cY) (dX := dX) (dY := dY) (by assumption); have ho := ornt_ok ha.1 ha.2.1 ha.2.2.1; have hz := sgn_zero' (trn aX aY bX bY cX cY); have hb := sgn_bd' (trn aX aY bX bY cX cY); have hs := s_inc aX aY bX bY cX cY dX dY; simp only [ho] at hs; have e4 := ha.2.2.2; have b1 := okP_iff.1 ha.1; have b2 := okP_iff.1 ha.2.1; have b3 := okP_iff.1 ha.2.2.1; have b4 := okP_iff.1 e4; first | omega | (exact hs.1 (by omega)) | (exact (hs.1 (by omega)).symm) | (exact (hs.2 (by omega) (by omega) e4).1) | (exact (hs.2 (by omega) (by omega) e4).1.symm) | (simp_all [inTri]; done))
      · refine ⟨rfl, ?_⟩
        intro c16
        -- 15: (-2002) ≤ dX ∧ dX ≤ 2002
        first | rfl | omega | (simp_all [selL]; done) | (have ha := i_inc2 (aX := aX) (aY := aY) (bX := bX) (bY := bY) (cX := cX) (cY := cY) (dX := dX) (dY := dY) (by first | (simp_all; done) | fail); simp_all; done) | (have ha := i_inc (aX := aX) (aY := aY) (bX := bX) (bY := bY) (cX := cX) (cY := cY) (dX := dX) (dY := dY) (by assumption); have ho := ornt_ok ha.1 ha.2.1 ha.2.2.1; have hz := sgn_zero' (trn aX aY bX bY cX cY); have hb := sgn_bd' (trn aX aY bX bY cX cY); have hs := s_inc aX aY bX bY cX cY dX dY; simp only [ho] at hs; have e4 := ha.2.2.2; have b1 := okP_iff.1 ha.1; have b2 := okP_iff.1 ha.2.1; have b3 := okP_iff.1 ha.2.2.1; have b4 := okP_iff.1 e4; first | omega | (exact hs.1 (by omega)) | (exact (hs.1 (by omega)).symm) | (exact (hs.2 (by omega) (by omega) e4).1) | (exact (hs.2 (by omega) (by omega) e4).1.symm) | (simp_all [inTri]; done))
      · intro c17
        -- 16: (-2002) ≤ dY ∧ dY ≤ 2002
        first | rfl | omega | (simp_all [selL]; done) | (have ha := i_inc2 (aX := aX) (aY := aY) (bX := bX) (bY := bY) (cX := cX) (cY := cY) (dX := dX) (dY := dY) (by first | (simp_all; done) | fail); simp_all; done) | (have ha := i_inc (aX := aX) (aY := aY) (bX := bX) (bY := bY) (cX := cX) (cY := cY) (dX := dX) (dY := dY) (by assumption); have ho := ornt_ok ha.1 ha.2.1 ha.2.2.1; have hz := sgn_zero' (trn aX aY bX bY cX cY); have hb := sgn_bd' (trn aX aY bX bY cX cY); have hs := s_inc aX aY bX bY cX cY dX dY; simp only [ho] at hs; have e4 := ha.2.2.2; have b1 := okP_iff.1 ha.1; have b2 := okP_iff.1 ha.2.1; have b3 := okP_iff.1 ha.2.2.1; have b4 := okP_iff.1 e4; first | omega | (exact hs.1 (by omega)) | (exact (hs.1 (by omega)).symm) | (exact (hs.2 (by omega) (by omega) e4).1) | (exact (hs.2 (by omega) (by omega) e4).1.symm) | (simp_all [inTri]; done))
      -- 17: ((inT aX aY bX bY cX cY dX dY) = true) ↔ ((inTri aX aY bX bY cX cY dX dY) = true)
    · first | rfl | omega | (simp_all [selL]; done) | (have ha := i_inc2 (aX := aX) (aY := aY) (bX := bX) (bY := bY) (cX := cX) (cY := cY) (dX := dX) (dY := dY) (by first | (simp_all; done) | fail); simp_all; done) | (have ha := i_inc (aX := aX) (aY := aY) (bX := bX) (bY := bY) (cX := cX) (cY := cY) (dX := dX) (dY := dY) (by assumption); have ho := ornt_ok ha.1 ha.2.1 ha.2.2.1; have hz := sgn_zero' (trn aX aY bX bY cX cY); have hb := sgn_bd' (trn aX aY bX bY cX cY); have hs := s_inc aX aY bX bY cX cY dX dY; simp only [ho] at hs; have e4 := ha.2.2.2; have b1 := okP_iff.1 ha.1; have b2 := okP_iff.1 ha.2.1; have b3 := okP_iff.1 ha.2.2.1; have b4 := okP_iff.1 e4; first | omega | (exact hs.1 (by omega)) | (exact (hs.1 (by omega)).symm) | (exact (hs.2 (by omega) (by omega) e4).1) | (exact (hs.2 (by omega) (by omega) e4).1.symm) | (simp_all [inTri]; done))
  · intro c18
    -- 18: (inTri aX aY bX bY cX cY dX dY) = false
    first | rfl | omega | (simp_all [selL]; done) | (have ha := i_inc2 (aX := aX) (aY := aY) (bX := bX) (bY := bY) (cX := cX) (cY := cY) (dX := dX) (dY := dY) (by first | (simp_all; done) | fail); simp_all; done) | (have ha := i_inc (aX := aX) (aY := aY) (bX := bX) (bY := bY) (cX := cX) (cY := cY) (dX := dX) (dY := dY) (by assumption); have ho := ornt_ok ha.1 ha.2.1 ha.2.2.1; have hz := sgn_zero' (trn aX aY bX bY cX cY); have hb := sgn_bd' (trn aX aY bX bY cX cY); have hs := s_inc aX aY bX bY cX cY dX dY; simp only [ho] at hs; have e4 := ha.2.2.2; have b1 := okP_iff.1 ha.1; have b2 := okP_iff.1 ha.2.1; have b3 := okP_iff.1 ha.2.2.1; have b4 := okP_iff.1 e4; first | omega | (exact hs.1 (by omega)) | (exact (hs.1 (by omega)).symm) | (exact (hs.2 (by omega) (by omega) e4).1) | (exact (hs.2 (by omega) (by omega) e4).1.symm) | (simp_all [inTri]; done))
def c_i_InTriangle (aX : Int) (aY : Int) (bX : Int) (bY : Int) (cX : Int) (cY : Int) (dX : Int) (dY : Int) : Cn Try.prog := ⟨_, _, _, _, _, i_InTriangle aX aY bX bY cX cY dX dY⟩
end Go.Proofs.Ytnombddkojljdaa
