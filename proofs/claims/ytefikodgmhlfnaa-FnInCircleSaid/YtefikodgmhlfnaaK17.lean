/- Circles and triangles. -/
import Derived.Test.YtefikodgmhlfnaaK14
set_option linter.unusedSimpArgs false
set_option linter.unusedVariables false
set_option maxRecDepth 100000
namespace Go.Proofs.Ytefikodgmhlfnaa
open Go.Sym
theorem allB4 (q : Int → Bool) : allB q 4 = (q 0 && (q 1 && (q 2 && q 3))) := by simp [allB, List.range_succ]
def circ (aX aY bX bY cX cY dX dY : Int) : Int :=
  ((aX - dX) * (aX - dX) + (aY - dY) * (aY - dY)) * ((bX - dX) * (cY - dY) - (bY - dY) * (cX - dX)) +
  ((bX - dX) * (bX - dX) + (bY - dY) * (bY - dY)) * ((cX - dX) * (aY - dY) - (cY - dY) * (aX - dX)) +
  ((cX - dX) * (cX - dX) + (cY - dY) * (cY - dY)) * ((aX - dX) * (bY - dY) - (aY - dY) * (bX - dX))
def inc (aX aY bX bY cX cY dX dY : Int) : Int :=
  if okP aX aY && okP bX bY && okP cX cY && okP dX dY && !decide (trn aX aY bX bY cX cY = 0) then sgn (circ aX aY bX bY cX cY dX dY) * sgn (trn aX aY bX bY cX cY) else 2
def inT (aX aY bX bY cX cY dX dY : Int) : Bool :=
  if trn aX aY bX bY cX cY = 0 then onB aX aY bX bY dX dY || onB bX bY cX cY dX dY || onB cX cY aX aY dX dY
  else decide (0 ≤ sgn (trn aX aY bX bY cX cY) * trn aX aY bX bY dX dY) && decide (0 ≤ sgn (trn aX aY bX bY cX cY) * trn bX bY cX cY dX dY) && decide (0 ≤ sgn (trn aX aY bX bY cX cY) * trn cX cY aX aY dX dY)
def inTri (aX aY bX bY cX cY dX dY : Int) : Bool := okP aX aY && okP bX bY && okP cX cY && okP dX dY && inT aX aY bX bY cX cY dX dY
theorem i_inCircle (aX : Int) (aY : Int) (bX : Int) (bY : Int) (cX : Int) (cY : Int) (dX : Int) (dY : Int) : RunsTo Try.prog 12 [(.agg [(.int .i64 (.v fun _ => aX) (-4000) 4000), (.int .i64 (.v fun _ => aY) (-4000) 4000)]), (.agg [(.int .i64 (.v fun _ => bX) (-4000) 4000), (.int .i64 (.v fun _ => bY) (-4000) 4000)]), (.agg [(.int .i64 (.v fun _ => cX) (-4000) 4000), (.int .i64 (.v fun _ => cY) (-4000) 4000)]), (.agg [(.int .i64 (.v fun _ => dX) (-4000) 4000), (.int .i64 (.v fun _ => dY) (-4000) 4000)])] [] (.int .i64 (.v fun _ => sgn (circ aX aY bX bY cX cY dX dY) * sgn (trn aX aY bX bY cX cY)) (-1) 1) [] := by
  refine RunsTo.go env Try.func12 rfl Try.call12 rfl rfl (fun _ _ => (.call (c_i_minus aX aY dX dY) (.call (c_i_minus bX bY dX dY) (.call (c_i_minus cX cY dX dY) (.call (c_i_dot (aX - dX) (aY - dY) (aX - dX) (aY - dY)) (.call (c_i_cross (bX - dX) (bY - dY) (cX - dX) (cY - dY)) (.call (c_i_dot (bX - dX) (bY - dY) (bX - dX) (bY - dY)) (.call (c_i_cross (cX - dX) (cY - dY) (aX - dX) (aY - dY)) (.call (c_i_dot (cX - dX) (cY - dY) (cX - dX) (cY - dY)) (.call (c_i_cross (aX - dX) (aY - dY) (bX - dX) (bY - dY)) (.call (c_i_sign (((((aX - dX) * (aX - dX) + (aY - dY) * (aY - dY)) * ((bX - dX) * (cY - dY) - (bY - dY) * (cX - dX))) + (((bX - dX) * (bX - dX) + (bY - dY) * (bY - dY)) * ((cX - dX) * (aY - dY) - (cY - dY) * (aX - dX)))) + (((cX - dX) * (cX - dX) + (cY - dY) * (cY - dY)) * ((aX - dX) * (bY - dY) - (aY - dY) * (bX - dX))))) (.call (c_i_turn aX aY bX bY cX cY) (.call (c_i_sign (trn aX aY bX bY cX cY)) .ret))))))))))))) (G := ((((-4000) ≤ aX ∧ aX ≤ 4000) ∧ ((-4000) ≤ aY ∧ aY ≤ 4000)) ∧ ((((-4000) ≤ bX ∧ bX ≤ 4000) ∧ ((-4000) ≤ bY ∧ bY ≤ 4000)) ∧ ((((-4000) ≤ cX ∧ cX ≤ 4000) ∧ ((-4000) ≤ cY ∧ cY ≤ 4000)) ∧ (((-4000) ≤ dX ∧ dX ≤ 4000) ∧ ((-4000) ≤ dY ∧ dY ≤ 4000))))) → (True) → ((((aX = aX) ∧ (aY = aY)) ∧ ((dX = dX) ∧ (dY = dY))) ∧ ((((bX = bX) ∧ (bY = bY)) ∧ ((dX = dX) ∧ (dY = dY))) ∧ ((((cX = cX) ∧ (cY = cY)) ∧ ((dX = dX) ∧ (dY = dY))) ∧ (((((aX - dX) = (aX - dX)) ∧ ((aY - dY) = (aY - dY))) ∧ (((aX - dX) = (aX - dX)) ∧ ((aY - dY) = (aY - dY)))) ∧ (((((bX - dX) = (bX - dX)) ∧ ((bY - dY) = (bY - dY))) ∧ (((cX - dX) = (cX - dX)) ∧ ((cY - dY) = (cY - dY)))) ∧ (((((bX - dX) = (bX - dX)) ∧ ((bY - dY) = (bY - dY))) ∧ (((bX - dX) = (bX - dX)) ∧ ((bY - dY) = (bY - dY)))) ∧ (((((cX - dX) = (cX - dX)) ∧ ((cY - dY) = (cY - dY))) ∧ (((aX - dX) = (aX - dX)) ∧ ((aY - dY) = (aY - dY)))) ∧ (((((cX - dX) = (cX - dX)) ∧ ((cY - dY) = (cY - dY))) ∧ (((cX - dX) = (cX - dX)) ∧ ((cY - dY) = (cY - dY)))) ∧ (((((aX - dX) = (aX - dX)) ∧ ((aY - dY) = (aY - dY))) ∧ (((bX - dX) = (bX - dX)) ∧ ((bY - dY) = (bY - dY)))) ∧ (((((((aX - dX) * (aX - dX) + (aY - dY) * (aY - dY)) * ((bX - dX) * (cY - dY) - (bY - dY) * (cX - dX))) + (((bX - dX) * (bX - dX) + (bY - dY) * (bY - dY)) * ((cX - dX) * (aY - dY) - (cY - dY) * (aX - dX)))) + (((cX - dX) * (cX - dX) + (cY - dY) * (cY - dY)) * ((aX - dX) * (bY - dY) - (aY - dY) * (bX - dX)))) = ((((((aX - dX) * (aX - dX) + (aY - dY) * (aY - dY)) * ((bX - dX) * (cY - dY) - (bY - dY) * (cX - dX))) + (((bX - dX) * (bX - dX) + (bY - dY) * (bY - dY)) * ((cX - dX) * (aY - dY) - (cY - dY) * (aX - dX)))) + (((cX - dX) * (cX - dX) + (cY - dY) * (cY - dY)) * ((aX - dX) * (bY - dY) - (aY - dY) * (bX - dX)))))) ∧ ((((aX = aX) ∧ (aY = aY)) ∧ (((bX = bX) ∧ (bY = bY)) ∧ ((cX = cX) ∧ (cY = cY)))) ∧ (((trn aX aY bX bY cX cY) = (trn aX aY bX bY cX cY)) ∧ (((sgn (((((aX - dX) * (aX - dX) + (aY - dY) * (aY - dY)) * ((bX - dX) * (cY - dY) - (bY - dY) * (cX - dX))) + (((bX - dX) * (bX - dX) + (bY - dY) * (bY - dY)) * ((cX - dX) * (aY - dY) - (cY - dY) * (aX - dX)))) + (((cX - dX) * (cX - dX) + (cY - dY) * (cY - dY)) * ((aX - dX) * (bY - dY) - (aY - dY) * (bX - dX))))) * (sgn (trn aX aY bX bY cX cY))) = (sgn (circ aX aY bX bY cX cY dX dY) * sgn (trn aX aY bX bY cX cY)))))))))))))))) (by kernel_rfl) ?_
  intro h1 h2
  refine ⟨⟨⟨rfl, rfl⟩, ⟨rfl, rfl⟩⟩, ⟨⟨rfl, rfl⟩, ⟨rfl, rfl⟩⟩, ⟨⟨rfl, rfl⟩, ⟨rfl, rfl⟩⟩, ⟨⟨rfl, rfl⟩, ⟨rfl, rfl⟩⟩, ⟨⟨rfl, rfl⟩, ⟨rfl, rfl⟩⟩, ⟨⟨rfl, rfl⟩, ⟨rfl, rfl⟩⟩, ⟨⟨rfl, rfl⟩, ⟨rfl, rfl⟩⟩, ⟨⟨rfl, rfl⟩, ⟨rfl, rfl⟩⟩, ⟨⟨rfl, rfl⟩, ⟨rfl, rfl⟩⟩, rfl, ⟨⟨rfl, rfl⟩, ⟨⟨rfl, rfl⟩, ⟨rfl, rfl⟩⟩⟩, rfl, ?_⟩
  -- 1: ((sgn (((((aX - dX) * (aX - dX) + (aY - dY) * (aY - dY)) * ((bX - dX) * (cY - dY) - (bY - dY) * (cX 
  first | rfl | omega | (unfold circ; first | rfl | omega)
def c_i_inCircle (aX : Int) (aY : Int) (bX : Int) (bY : Int) (cX : Int) (cY : Int) (dX : Int) (dY : Int) : Cn Try.prog := ⟨_, _, _, _, _, i_inCircle aX aY bX bY cX cY dX dY⟩
theorem sgn_zero' (n : Int) : sgn n = 0 ↔ n = 0 := by unfold sgn; split <;> (try split) <;> constructor <;> intro <;> omega
theorem sgn_bd' (n : Int) : -1 ≤ sgn n ∧ sgn n ≤ 1 := by unfold sgn; split <;> (try split) <;> omega
theorem s_inc (aX aY bX bY cX cY dX dY : Int) : ((ornt aX aY bX bY cX cY = 0 ∨ ornt aX aY bX bY cX cY = 2 ∨ okP dX dY = false) → inc aX aY bX bY cX cY dX dY = 2) ∧
    (ornt aX aY bX bY cX cY ≠ 0 → ornt aX aY bX bY cX cY ≠ 2 → okP dX dY = true → inc aX aY bX bY cX cY dX dY = sgn (circ aX aY bX bY cX cY dX dY) * ornt aX aY bX bY cX cY ∧ -1 ≤ inc aX aY bX bY cX cY dX dY ∧ inc aX aY bX bY cX cY dX dY ≤ 1) := by
  by_cases h : (okP aX aY && okP bX bY && okP cX cY) = true
  · have e : ornt aX aY bX bY cX cY = sgn (trn aX aY bX bY cX cY) := if_pos h
    have hz := sgn_zero' (trn aX aY bX bY cX cY)
    have hb := sgn_bd' (trn aX aY bX bY cX cY)
    have hb2 := sgn_bd' (circ aX aY bX bY cX cY dX dY)
    rw [e]
    unfold inc
    rw [h]
    constructor
    · rintro (h | h | h)
      · rw [hz] at h; simp [h]
      · omega
      · simp [h]
    · intro h1 h2 h3
      rw [Ne, hz] at h1
      rw [h3, decide_eq_false h1]
      refine ⟨rfl, ?_⟩
      have m := mul_bd (sgn (circ aX aY bX bY cX cY dX dY)) (sgn (trn aX aY bX bY cX cY)) 1 1 (by omega) (by omega) (by omega) (by omega)
      simp only [Bool.not_false, Bool.and_self, if_true]
      omega
  · have e : ornt aX aY bX bY cX cY = 2 := if_neg h
    rw [e]
    refine ⟨fun _ => ?_, fun _ h2 => absurd rfl h2⟩
    unfold inc
    rw [Bool.not_eq_true] at h
    rw [h]; rfl
theorem ornt_ok {aX aY bX bY cX cY : Int} (ha : okP aX aY = true) (hb : okP bX bY = true) (hc : okP cX cY = true) : ornt aX aY bX bY cX cY = sgn (trn aX aY bX bY cX cY) := by
  unfold ornt; rw [ha, hb, hc]; rfl
theorem i_inc {aX aY bX bY cX cY dX dY : Int} (h : allB (fun i => okP (selL [aX, bX, cX, dX] i) (selL [aY, bY, cY, dY] i)) 4 = true) : okP aX aY = true ∧ okP bX bY = true ∧ okP cX cY = true ∧ okP dX dY = true := by
  rw [allB4] at h
  simpa [selL] using h
theorem i_inc2 {aX aY bX bY cX cY dX dY : Int} (h : allB (fun i => okP (selL [aX, bX, cX, dX] i) (selL [aY, bY, cY, dY] i)) 4 = false) : inc aX aY bX bY cX cY dX dY = 2 ∧ inTri aX aY bX bY cX cY dX dY = false := by
  rw [allB4] at h
  have h' : (okP aX aY && (okP bX bY && (okP cX cY && okP dX dY))) = false := by simpa [selL] using h
  have e : (okP aX aY && okP bX bY && okP cX cY && okP dX dY) = false := by rw [← h']; simp only [Bool.and_assoc]
  unfold inc inTri
  rw [e]; exact ⟨rfl, rfl⟩
theorem i_InCircle (aX : Int) (aY : Int) (bX : Int) (bY : Int) (cX : Int) (cY : Int) (dX : Int) (dY : Int) : RunsTo Try.prog 5 [(.agg [(.int .i64 (.v fun _ => aX) (-4000) 4000), (.int .i64 (.v fun _ => aY) (-4000) 4000)]), (.agg [(.int .i64 (.v fun _ => bX) (-4000) 4000), (.int .i64 (.v fun _ => bY) (-4000) 4000)]), (.agg [(.int .i64 (.v fun _ => cX) (-4000) 4000), (.int .i64 (.v fun _ => cY) (-4000) 4000)]), (.agg [(.int .i64 (.v fun _ => dX) (-4000) 4000), (.int .i64 (.v fun _ => dY) (-4000) 4000)])] [] (.int .i64 (.v fun _ => inc aX aY bX bY cX cY dX dY) (-1) 2) [] := by
  refine RunsTo.go env Try.func5 rfl Try.call5 rfl rfl (fun _ _ => (.call (c_i_allValid (selL [aX, bX, cX, dX]) (selL [aY, bY, cY, dY]) 4) (.ite .ret (.call (c_i_turn aX aY bX bY cX cY) (.ite .ret (.call (c_i_inCircle aX aY bX bY cX cY dX dY) .ret)))))) (G := ((((-4000) ≤ aX ∧ aX ≤ 4000) ∧ ((-4000) ≤ aY ∧ aY ≤ 4000)) ∧ ((((-4000) ≤ bX ∧ bX ≤ 4000) ∧ ((-4000) ≤ bY ∧ bY ≤ 4000)) ∧ ((((-4000) ≤ cX ∧ cX ≤ 4000) ∧ ((-4000) ≤ cY ∧ cY ≤ 4000)) ∧ (((-4000) ≤ dX ∧ dX ≤ 4000) ∧ ((-4000) ≤ dY ∧ dY ≤ 4000))))) → (True) → (((4 : Int) = 4) ∧ ((((4 : Int) = 4) ∧ ((∀ e4 : E, ((e4.den = 0) → ((aX = (selL [aX, bX, cX, dX] (e4.den))) ∧ (aY = (selL [aY, bY, cY, dY] (e4.den)))))) ∧ ((∀ e3 : E, ((e3.den = 1) → ((bX = (selL [aX, bX, cX, dX] (e3.den))) ∧ (bY = (selL [aY, bY, cY, dY] (e3.den)))))) ∧ ((∀ e2 : E, ((e2.den = 2) → ((cX = (selL [aX, bX, cX, dX] (e2.den))) ∧ (cY = (selL [aY, bY, cY, dY] (e2.den)))))) ∧ (∀ e1 : E, ((e1.den = 3) → ((dX = (selL [aX, bX, cX, dX] (e1.den))) ∧ (dY = (selL [aY, bY, cY, dY] (e1.den)))))))))) ∧ ((((allB (fun i => okP (selL [aX, bX, cX, dX] i) (selL [aY, bY, cY, dY] i)) 4) = false) → ((2 : Int) = (inc aX aY bX bY cX cY dX dY))) ∧ (((allB (fun i => okP (selL [aX, bX, cX, dX] i) (selL [aY, bY, cY, dY] i)) 4) = true) → ((((aX = aX) ∧ (aY = aY)) ∧ (((bX = bX) ∧ (bY = bY)) ∧ ((cX = cX) ∧ (cY = cY)))) ∧ ((((trn aX aY bX bY cX cY) = 0) → ((2 : Int) = (inc aX aY bX bY cX cY dX dY))) ∧ (((trn aX aY bX bY cX cY) ≠ 0) → ((((aX = aX) ∧ (aY = aY)) ∧ (((bX = bX) ∧ (bY = bY)) ∧ (((cX = cX) ∧ (cY = cY)) ∧ ((dX = dX) ∧ (dY = dY))))) ∧ ((sgn (circ aX aY bX bY cX cY dX dY) * sgn (trn aX aY bX bY cX cY)) = (inc aX aY bX bY cX cY dX dY))))))))))) (by kernel_rfl) ?_
  intro h1 h2
  refine ⟨rfl, ?_, ?_, ?_⟩
  · refine ⟨rfl, ?_, ?_, ?_, ?_⟩
    · intro e4
      intro c5
      refine ⟨?_, ?_⟩
        -- 1: aX = (selL [aX, bX, cX, dX] (e4.den))
      · first | rfl | omega | (simp_all [selL]; done) | (have ha := i_inc2 (aX := aX) (aY := aY) (bX := bX) (bY := bY) (cX := cX) (cY := cY) (dX := dX) (dY := dY) (by first | (simp_all; done) | fail); simp_all; done) | (have ha := i_inc (aX := aX) (aY := aY) (bX := bX) (bY := bY) (cX := cX) (cY := cY) (dX := dX) (dY := dY) (by assumption); have ho := ornt_ok ha.1 ha.2.1 ha.2.2.1; have hz := sgn_zero' (trn aX aY bX bY cX cY); have hb := sgn_bd' (trn aX aY bX bY cX cY); have hs := s_inc aX aY bX bY cX cY dX dY; simp only [ho] at hs; have e4 := ha.2.2.2; have b1 := okP_iff.1 ha.1; have b2 := okP_iff.1 ha.2.1; have b3 := okP_iff.1 ha.2.2.1; have b4 := okP_iff.1 e4; first | omega | (exact hs.1 (by omega)) | (exact (hs.1 (by omega)).symm) | (exact (hs.2 (by omega) (by omega) e4).1) | (exact (hs.2 (by omega) (by omega) e4).1.symm) | (simp_all [inTri]; done))
        -- 2: aY = (selL [aY, bY, cY, dY] (e4.den))
      · first | rfl | omega | (simp_all [selL]; done) | (have ha := i_inc2 (aX := aX) (aY := aY) (bX := bX) (bY := bY) (cX := cX) (cY := cY) (dX := dX) (dY := dY) (by first | (simp_all; done) | fail); simp_all; done) | (have ha := i_inc (aX := aX) (aY := aY) (bX := bX) (bY := bY) (cX := cX) (cY := cY) (dX := dX) (dY := dY) (by assumption); have ho := ornt_ok ha.1 ha.2.1 ha.2.2.1; have hz := sgn_zero' (trn aX aY bX bY cX cY); have hb := sgn_bd' (trn aX aY bX bY cX cY); have hs := s_inc aX aY bX bY cX cY dX dY; simp only [ho] at hs; have e4 := ha.2.2.2; have b1 := okP_iff.1 ha.1; have b2 := okP_iff.1 ha.2.1; have b3 := okP_iff.1 ha.2.2.1; have b4 := okP_iff.1 e4; first | omega | (exact hs.1 (by omega)) | (exact (hs.1 (by omega)).symm) | (exact (hs.2 (by omega) (by omega) e4).1) | (exact (hs.2 (by omega) (by omega) e4).1.symm) | (simp_all [inTri]; done))
    · intro e3
      intro c6
      refine ⟨?_, ?_⟩
        -- 3: bX = (selL [aX, bX, cX, dX] (e3.den))
      · first | rfl | omega | (simp_all [selL]; done) | (have ha := i_inc2 (aX := aX) (aY := aY) (bX := bX) (bY := bY) (cX := cX) (cY := cY) (dX := dX) (dY := dY) (by first | (simp_all; done) | fail); simp_all; done) | (have ha := i_inc (aX := aX) (aY := aY) (bX := bX) (bY := bY) (cX := cX) (cY := cY) (dX := dX) (dY := dY) (by assumption); have ho := ornt_ok ha.1 ha.2.1 ha.2.2.1; have hz := sgn_zero' (trn aX aY bX bY cX cY); have hb := sgn_bd' (trn aX aY bX bY cX cY); have hs := s_inc aX aY bX bY cX cY dX dY; simp only [ho] at hs; have e4 := ha.2.2.2; have b1 := okP_iff.1 ha.1; have b2 := okP_iff.1 ha.2.1; have b3 := okP_iff.1 ha.2.2.1; have b4 := okP_iff.1 e4; first | omega | (exact hs.1 (by omega)) | (exact (hs.1 (by omega)).symm) | (exact (hs.2 (by omega) (by omega) e4).1) | (exact (hs.2 (by omega) (by omega) e4).1.symm) | (simp_all [inTri]; done))
        -- 4: bY = (selL [aY, bY, cY, dY] (e3.den))
      · first | rfl | omega | (simp_all [selL]; done) | (have ha := i_inc2 (aX := aX) (aY := aY) (bX := bX) (bY := bY) (cX := cX) (cY := cY) (dX := dX) (dY := dY) (by first | (simp_all; done) | fail); simp_all; done) | (have ha := i_inc (aX := aX) (aY := aY) (bX := bX) (bY := bY) (cX := cX) (cY := cY) (dX := dX) (dY := dY) (by assumption); have ho := ornt_ok ha.1 ha.2.1 ha.2.2.1; have hz := sgn_zero' (trn aX aY bX bY cX cY); have hb := sgn_bd' (trn aX aY bX bY cX cY); have hs := s_inc aX aY bX bY cX cY dX dY; simp only [ho] at hs; have e4 := ha.2.2.2; have b1 := okP_iff.1 ha.1; have b2 := okP_iff.1 ha.2.1; have b3 := okP_iff.1 ha.2.2.1; have b4 := okP_iff.1 e4; first | omega | (exact hs.1 (by omega)) | (exact (hs.1 (by omega)).symm) | (exact (hs.2 (by omega) (by omega) e4).1) | (exact (hs.2 (by omega) (by omega) e4).1.symm) | (simp_all [inTri]; done))
    · intro e2
      intro c7
      refine ⟨?_, ?_⟩
        -- 5: cX = (selL [aX, bX, cX, dX] (e2.den))
      · first | rfl | omega | (simp_all [selL]; done) | (have ha := i_inc2 (aX := aX) (aY := aY) (bX := bX) (bY := bY) (cX := cX) (cY := cY) (dX := dX) (dY := dY) (by first | (simp_all; done) | fail); simp_all; done) | (have ha := i_inc (aX := aX) (aY := aY) (bX := bX) (bY := bY) (cX := cX) (cY := cY) (dX := dX) (dY := dY) (by assumption); have ho := ornt_ok ha.1 ha.2.1 ha.2.2.1; have hz := sgn_zero' (trn aX aY bX bY cX cY); have hb := sgn_bd' (trn aX aY bX bY cX cY); have hs := s_inc aX aY bX bY cX cY dX dY; simp only [ho] at hs; have e4 := ha.2.2.2; have b1 := okP_iff.1 ha.1; have b2 := okP_iff.1 ha.2.1; have b3 := okP_iff.1 ha.2.2.1; have b4 := okP_iff.1 e4; first | omega | (exact hs.1 (by omega)) | (exact (hs.1 (by omega)).symm) | (exact (hs.2 (by omega) (by omega) e4).1) | (exact (hs.2 (by omega) (by omega) e4).1.symm) | (simp_all [inTri]; done))
        -- 6: cY = (selL [aY, bY, cY, dY] (e2.den))
      · first | rfl | omega | (simp_all [selL]; done) | (have ha := i_inc2 (aX := aX) (aY := aY) (bX := bX) (bY := bY) (cX := cX) (cY := cY) (dX := dX) (dY := dY) (by first | (simp_all; done) | fail); simp_all; done) | (have ha := i_inc (aX := aX) (aY := aY) (bX := bX) (bY := bY) (cX := cX) (cY := cY) (dX := dX) (dY := dY) (by assumption); have ho := ornt_ok ha.1 ha.2.1 ha.2.2.1; have hz := sgn_zero' (trn aX aY bX bY cX cY); have hb := sgn_bd' (trn aX aY bX bY cX cY); have hs := s_inc aX aY bX bY cX cY dX dY; simp only [ho] at hs; have e4 := ha.2.2.2; have b1 := okP_iff.1 ha.1; have b2 := okP_iff.1 ha.2.1; have b3 := okP_iff.1 ha.2.2.1; have b4 := okP_iff.1 e4; first | omega | (exact hs.1 (by omega)) | (exact (hs.1 (by omega)).symm) | (exact (hs.2 (by omega) (by omega) e4).1) | (exact (hs.2 (by omega) (by omega) e4).1.symm) | (simp_all [inTri]; done))
    · intro e1
      intro c8
      refine ⟨?_, ?_⟩
        -- 7: dX = (selL [aX, bX, cX, dX] (e1.den))
      · first | rfl | omega | (simp_all [selL]; done) | (have ha := i_inc2 (aX := aX) (aY := aY) (bX := bX) (bY := bY) (cX := cX) (cY := cY) (dX := dX) (dY := dY) (by first | (simp_all; done) | fail); simp_all; done) | (have ha := i_inc (aX := aX) (aY := aY) (bX := bX) (bY := bY) (cX := cX) (cY := cY) (dX := dX) (dY := dY) (by assumption); have ho := ornt_ok ha.1 ha.2.1 ha.2.2.1; have hz := sgn_zero' (trn aX aY bX bY cX cY); have hb := sgn_bd' (trn aX aY bX bY cX cY); have hs := s_inc aX aY bX bY cX cY dX dY; simp only [ho] at hs; have e4 := ha.2.2.2; have b1 := okP_iff.1 ha.1; have b2 := okP_iff.1 ha.2.1; have b3 := okP_iff.1 ha.2.2.1; have b4 := okP_iff.1 e4; first | omega | (exact hs.1 (by omega)) | (exact (hs.1 (by omega)).symm) | (exact (hs.2 (by omega) (by omega) e4).1) | (exact (hs.2 (by omega) (by omega) e4).1.symm) | (simp_all [inTri]; done))
        -- 8: dY = (selL [aY, bY, cY, dY] (e1.den))
      · first | rfl | omega | (simp_all [selL]; done) | (have ha := i_inc2 (aX := aX) (aY := aY) (bX := bX) (bY := bY) (cX := cX) (cY := cY) (dX := dX) (dY := dY) (by first | (simp_all; done) | fail); simp_all; done) | (have ha := i_inc (aX := aX) (aY := aY) (bX := bX) (bY := bY) (cX := cX) (cY := cY) (dX := dX) (dY := dY) (by assumption); have ho := ornt_ok ha.1 ha.2.1 ha.2.2.1; have hz := sgn_zero' (trn aX aY bX bY cX cY); have hb := sgn_bd' (trn aX aY bX bY cX cY); have hs := s_inc aX aY bX bY cX cY dX dY; simp only [ho] at hs; have e4 := ha.2.2.2; have b1 := okP_iff.1 ha.1; have b2 := okP_iff.1 ha.2.1; have b3 := okP_iff.1 ha.2.2.1; have b4 := okP_iff.1 e4; first | omega | (exact hs.1 (by omega)) | (exact (hs.1 (by omega)).symm) | (exact (hs.2 (by omega) (by omega) e4).1) | (exact (hs.2 (by omega) (by omega) e4).1.symm) | (simp_all [inTri]; done))
  · intro c9
    -- 9: (2 : Int) = (inc aX aY bX bY cX cY dX dY)
    first | rfl | omega | (simp_all [selL]; done) | (have ha := i_inc2 (aX := aX) (aY := aY) (bX := bX) (bY := bY) (cX := cX) (cY := cY) (dX := dX) (dY := dY) (by first | (simp_all; done) | fail); simp_all; done) | (have ha := i_inc (aX := aX) (aY := aY) (bX := bX) (bY := bY) (cX := cX) (cY := cY) (dX := dX) (dY := dY) (by assumption); have ho := ornt_ok ha.1 ha.2.1 ha.2.2.1; have hz := sgn_zero' (trn aX aY bX bY cX cY); have hb := sgn_bd' (trn aX aY bX bY cX cY); have hs := s_inc aX aY bX bY cX cY dX dY; simp only [ho] at hs; have e4 := ha.2.2.2; have b1 := okP_iff.1 ha.1; have b2 := okP_iff.1 ha.2.1; have b3 := okP_iff.1 ha.2.2.1; have b4 := okP_iff.1 e4; first | omega | (exact hs.1 (by omega)) | (exact (hs.1 (by omega)).symm) | (exact (hs.2 (by omega) (by omega) e4).1) | (exact (hs.2 (by omega) (by omega) e4).1.symm) | (simp_all [inTri]; done))
  · intro c10
    refine ⟨⟨⟨rfl, rfl⟩, ⟨⟨rfl, rfl⟩, ⟨rfl, rfl⟩⟩⟩, ?_, ?_⟩
    · intro c11
      -- 10: (2 : Int) = (inc aX aY bX bY cX cY dX dY)
      first | rfl | omega | (simp_all [selL]; done) | (have ha := i_inc2 (aX := aX) (aY := aY) (bX := bX) (bY := bY) (cX := cX) (cY := cY) (dX := dX) (dY := dY) (by first | (simp_all; done) | fail); simp_all; done) | (have ha := i_inc (aX := aX) (aY := aY) (bX := bX) (bY := bY) (cX := cX) (cY := cY) (dX := dX) (dY := dY) (by assumption); have ho := ornt_ok ha.1 ha.2.1 ha.2.2.1; have hz := sgn_zero' (trn aX aY bX bY cX cY); have hb := sgn_bd' (trn aX aY bX bY cX cY); have hs := s_inc aX aY bX bY cX cY dX dY; simp only [ho] at hs; have e4 := ha.2.2.2; have b1 := okP_iff.1 ha.1; have b2 := okP_iff.1 ha.2.1; have b3 := okP_iff.1 ha.2.2.1; have b4 := okP_iff.1 e4; first | omega | (exact hs.1 (by omega)) | (exact (hs.1 (by omega)).symm) | (exact (hs.2 (by omega) (by omega) e4).1) | (exact (hs.2 (by omega) (by omega) e4).1.symm) | (simp_all [inTri]; done))
    · intro c12
      refine ⟨⟨⟨rfl, rfl⟩, ⟨⟨rfl, rfl⟩, ⟨⟨rfl, rfl⟩, ⟨rfl, rfl⟩⟩⟩⟩, ?_⟩
      -- 11: (sgn (circ aX aY bX bY cX cY dX dY) * sgn (trn aX aY bX bY cX cY)) = (inc aX aY bX bY cX cY dX dY)
      first | rfl | omega | (simp_all [selL]; done) | (have ha := i_inc2 (aX := aX) (aY := aY) (bX := bX) (bY := bY) (cX := cX) (cY := cY) (dX := dX) (dY := dY) (by first | (simp_all; done) | fail); simp_all; done) | (have ha := i_inc (aX := aX) (aY := aY) (bX := bX) (bY := bY) (cX := cX) (cY := cY) (dX := dX) (dY := dY) (by assumption); have ho := ornt_ok ha.1 ha.2.1 ha.2.2.1; have hz := sgn_zero' (trn aX aY bX bY cX cY); have hb := sgn_bd' (trn aX aY bX bY cX cY); have hs := s_inc aX aY bX bY cX cY dX dY; simp only [ho] at hs; have e4 := ha.2.2.2; have b1 := okP_iff.1 ha.1; have b2 := okP_iff.1 ha.2.1; have b3 := okP_iff.1 ha.2.2.1; have b4 := okP_iff.1 e4; first | omega | (exact hs.1 (by omega)) | (exact (hs.1 (by omega)).symm) | (exact (hs.2 (by omega) (by omega) e4).1) | (exact (hs.2 (by omega) (by omega) e4).1.symm) | (simp_all [inTri]; done))
def c_i_InCircle (aX : Int) (aY : Int) (bX : Int) (bY : Int) (cX : Int) (cY : Int) (dX : Int) (dY : Int) : Cn Try.prog := ⟨_, _, _, _, _, i_InCircle aX aY bX bY cX cY dX dY⟩
theorem s_inCircle (aX : Int) (aY : Int) (bX : Int) (bY : Int) (cX : Int) (cY : Int) (dX : Int) (dY : Int) : RunsTo Try.prog 15 [(.agg [(.int .i64 (.v fun _ => aX) (-4000) 4000), (.int .i64 (.v fun _ => aY) (-4000) 4000)]), (.agg [(.int .i64 (.v fun _ => bX) (-4000) 4000), (.int .i64 (.v fun _ => bY) (-4000) 4000)]), (.agg [(.int .i64 (.v fun _ => cX) (-4000) 4000), (.int .i64 (.v fun _ => cY) (-4000) 4000)]), (.agg [(.int .i64 (.v fun _ => dX) (-4000) 4000), (.int .i64 (.v fun _ => dY) (-4000) 4000)])] [] (.int .i64 (.v fun _ => sgn (circ aX aY bX bY cX cY dX dY)) (-1) 1) [] := by
  refine RunsTo.go env Try.func15 rfl Try.call15 rfl rfl (fun _ _ => (.call (c_s_sign ((((((aX - dX) * (aX - dX)) + ((aY - dY) * (aY - dY))) * (((bX - dX) * (cY - dY)) - ((bY - dY) * (cX - dX)))) - ((((bX - dX) * (bX - dX)) + ((bY - dY) * (bY - dY))) * (((aX - dX) * (cY - dY)) - ((aY - dY) * (cX - dX))))) + ((((cX - dX) * (cX - dX)) + ((cY - dY) * (cY - dY))) * (((aX - dX) * (bY - dY)) - ((aY - dY) * (bX - dX)))))) .ret)) (G := ((((-4000) ≤ aX ∧ aX ≤ 4000) ∧ ((-4000) ≤ aY ∧ aY ≤ 4000)) ∧ ((((-4000) ≤ bX ∧ bX ≤ 4000) ∧ ((-4000) ≤ bY ∧ bY ≤ 4000)) ∧ ((((-4000) ≤ cX ∧ cX ≤ 4000) ∧ ((-4000) ≤ cY ∧ cY ≤ 4000)) ∧ (((-4000) ≤ dX ∧ dX ≤ 4000) ∧ ((-4000) ≤ dY ∧ dY ≤ 4000))))) → (True) → ((((((((aX - dX) * (aX - dX)) + ((aY - dY) * (aY - dY))) * (((bX - dX) * (cY - dY)) - ((bY - dY) * (cX - dX)))) - ((((bX - dX) * (bX - dX)) + ((bY - dY) * (bY - dY))) * (((aX - dX) * (cY - dY)) - ((aY - dY) * (cX - dX))))) + ((((cX - dX) * (cX - dX)) + ((cY - dY) * (cY - dY))) * (((aX - dX) * (bY - dY)) - ((aY - dY) * (bX - dX))))) = (((((((aX - dX) * (aX - dX)) + ((aY - dY) * (aY - dY))) * (((bX - dX) * (cY - dY)) - ((bY - dY) * (cX - dX)))) - ((((bX - dX) * (bX - dX)) + ((bY - dY) * (bY - dY))) * (((aX - dX) * (cY - dY)) - ((aY - dY) * (cX - dX))))) + ((((cX - dX) * (cX - dX)) + ((cY - dY) * (cY - dY))) * (((aX - dX) * (bY - dY)) - ((aY - dY) * (bX - dX))))))) ∧ ((sgn ((((((aX - dX) * (aX - dX)) + ((aY - dY) * (aY - dY))) * (((bX - dX) * (cY - dY)) - ((bY - dY) * (cX - dX)))) - ((((bX - dX) * (bX - dX)) + ((bY - dY) * (bY - dY))) * (((aX - dX) * (cY - dY)) - ((aY - dY) * (cX - dX))))) + ((((cX - dX) * (cX - dX)) + ((cY - dY) * (cY - dY))) * (((aX - dX) * (bY - dY)) - ((aY - dY) * (bX - dX)))))) = (sgn (circ aX aY bX bY cX cY dX dY))))) (by kernel_rfl) ?_
  intro h1 h2
  refine ⟨rfl, ?_⟩
  -- 1: (sgn ((((((aX - dX) * (aX - dX)) + ((aY - dY) * (aY - dY))) * (((bX - dX) * (cY - dY)) - ((bY - dY) 
  first | rfl | omega | (congr 1; unfold circ; grind)
def c_s_inCircle (aX : Int) (aY : Int) (bX : Int) (bY : Int) (cX : Int) (cY : Int) (dX : Int) (dY : Int) : Cn Try.prog := ⟨_, _, _, _, _, s_inCircle aX aY bX bY cX cY dX dY⟩
theorem s_InCircle (aX : Int) (aY : Int) (bX : Int) (bY : Int) (cX : Int) (cY : Int) (dX : Int) (dY : Int) : RunsTo Try.prog 6 [(.agg [(.int .i64 (.v fun _ => aX) (-4000) 4000), (.int .i64 (.v fun _ => aY) (-4000) 4000)]), (.agg [(.int .i64 (.v fun _ => bX) (-4000) 4000), (.int .i64 (.v fun _ => bY) (-4000) 4000)]), (.agg [(.int .i64 (.v fun _ => cX) (-4000) 4000), (.int .i64 (.v fun _ => cY) (-4000) 4000)]), (.agg [(.int .i64 (.v fun _ => dX) (-4000) 4000), (.int .i64 (.v fun _ => dY) (-4000) 4000)])] [] (.int .i64 (.v fun _ => inc aX aY bX bY cX cY dX dY) (-1) 2) [] := by
  refine RunsTo.go env Try.func6 rfl Try.call6 rfl rfl (fun _ _ => (.call (c_s_Orient aX aY bX bY cX cY) (.call (c_s_validPoint dX dY) (.ite .ret (.ite .ret (.ite .ret (.call (c_s_inCircle aX aY bX bY cX cY dX dY) .ret))))))) (G := ((((-4000) ≤ aX ∧ aX ≤ 4000) ∧ ((-4000) ≤ aY ∧ aY ≤ 4000)) ∧ ((((-4000) ≤ bX ∧ bX ≤ 4000) ∧ ((-4000) ≤ bY ∧ bY ≤ 4000)) ∧ ((((-4000) ≤ cX ∧ cX ≤ 4000) ∧ ((-4000) ≤ cY ∧ cY ≤ 4000)) ∧ (((-4000) ≤ dX ∧ dX ≤ 4000) ∧ ((-4000) ≤ dY ∧ dY ≤ 4000))))) → (True) → ((((aX = aX) ∧ (aY = aY)) ∧ (((bX = bX) ∧ (bY = bY)) ∧ ((cX = cX) ∧ (cY = cY)))) ∧ (((dX = dX) ∧ (dY = dY)) ∧ ((((okP dX dY) = false) → ((2 : Int) = (inc aX aY bX bY cX cY dX dY))) ∧ (((okP dX dY) = true) → ((((ornt aX aY bX bY cX cY) = 0) → ((2 : Int) = (inc aX aY bX bY cX cY dX dY))) ∧ (((ornt aX aY bX bY cX cY) ≠ 0) → ((((ornt aX aY bX bY cX cY) = 2) → ((2 : Int) = (inc aX aY bX bY cX cY dX dY))) ∧ (((ornt aX aY bX bY cX cY) ≠ 2) → ((((aX = aX) ∧ (aY = aY)) ∧ (((bX = bX) ∧ (bY = bY)) ∧ (((cX = cX) ∧ (cY = cY)) ∧ ((dX = dX) ∧ (dY = dY))))) ∧ ((((sgn (circ aX aY bX bY cX cY dX dY)) * (ornt aX aY bX bY cX cY)) = (inc aX aY bX bY cX cY dX dY)) ∧ (((-2) ≤ ((sgn (circ aX aY bX bY cX cY dX dY)) * (ornt aX aY bX bY cX cY)) ∧ ((sgn (circ aX aY bX bY cX cY dX dY)) * (ornt aX aY bX bY cX cY)) ≤ 2) → ((-1) ≤ (inc aX aY bX bY cX cY dX dY) ∧ (inc aX aY bX bY cX cY dX dY) ≤ 2))))))))))))) (by kernel_rfl) ?_
  intro h1 h2
  refine ⟨⟨⟨rfl, rfl⟩, ⟨⟨rfl, rfl⟩, ⟨rfl, rfl⟩⟩⟩, ⟨rfl, rfl⟩, ?_, ?_⟩
  · intro c1
    -- 1: (2 : Int) = (inc aX aY bX bY cX cY dX dY)
    first | rfl | omega | (have hs := s_inc aX aY bX bY cX cY dX dY; first | (exact hs.1 (by omega)) | (exact (hs.1 (by omega)).symm) | (exact hs.1 (by first | (simp_all; done) | fail)) | (exact (hs.1 (by first | (simp_all; done) | fail)).symm) | (have hq := hs.2 (by omega) (by omega) (by assumption); omega))
  · intro c2
    refine ⟨?_, ?_⟩
    · intro c3
      -- 2: (2 : Int) = (inc aX aY bX bY cX cY dX dY)
      first | rfl | omega | (have hs := s_inc aX aY bX bY cX cY dX dY; first | (exact hs.1 (by omega)) | (exact (hs.1 (by omega)).symm) | (exact hs.1 (by first | (simp_all; done) | fail)) | (exact (hs.1 (by first | (simp_all; done) | fail)).symm) | (have hq := hs.2 (by omega) (by omega) (by assumption); omega))
    · intro c4
      refine ⟨?_, ?_⟩
      · intro c5
        -- 3: (2 : Int) = (inc aX aY bX bY cX cY dX dY)
        first | rfl | omega | (have hs := s_inc aX aY bX bY cX cY dX dY; first | (exact hs.1 (by omega)) | (exact (hs.1 (by omega)).symm) | (exact hs.1 (by first | (simp_all; done) | fail)) | (exact (hs.1 (by first | (simp_all; done) | fail)).symm) | (have hq := hs.2 (by omega) (by omega) (by assumption); omega))
      · intro c6
        refine ⟨⟨⟨rfl, rfl⟩, ⟨⟨rfl, rfl⟩, ⟨⟨rfl, rfl⟩, ⟨rfl, rfl⟩⟩⟩⟩, ?_, ?_⟩
          -- 4: ((sgn (circ aX aY bX bY cX cY dX dY)) * (ornt aX aY bX bY cX cY)) = (inc aX aY bX bY cX cY dX dY)
        · first | rfl | omega | (have hs := s_inc aX aY bX bY cX cY dX dY; first | (exact hs.1 (by omega)) | (exact (hs.1 (by omega)).symm) | (exact hs.1 (by first | (simp_all; done) | fail)) | (exact (hs.1 (by first | (simp_all; done) | fail)).symm) | (have hq := hs.2 (by omega) (by omega) (by assumption); omega))
        · intro c7
          -- 5: (-1) ≤ (inc aX aY bX bY cX cY dX dY) ∧ (inc aX aY bX bY cX cY dX dY) ≤ 2
          first | rfl | omega | (have hs := s_inc aX aY bX bY cX cY dX dY; first | (exact hs.1 (by omega)) | (exact (hs.1 (by omega)).symm) | (exact hs.1 (by first | (simp_all; done) | fail)) | (exact (hs.1 (by first | (simp_all; done) | fail)).symm) | (have hq := hs.2 (by omega) (by omega) (by assumption); omega))
def c_s_InCircle (aX : Int) (aY : Int) (bX : Int) (bY : Int) (cX : Int) (cY : Int) (dX : Int) (dY : Int) : Cn Try.prog := ⟨_, _, _, _, _, s_InCircle aX aY bX bY cX cY dX dY⟩
end Go.Proofs.Ytefikodgmhlfnaa
