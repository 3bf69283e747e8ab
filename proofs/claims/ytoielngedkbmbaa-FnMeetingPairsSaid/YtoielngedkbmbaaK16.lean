/- Where lines meet; sides of points with fractions. -/
import Derived.Test.YtoielngedkbmbaaK12
set_option linter.unusedSimpArgs false
set_option linter.unusedVariables false
set_option maxRecDepth 100000
namespace Go.Proofs.Ytoielngedkbmbaa
open Go.Sym
def mlH (lA lB lC mA mB mC : Int) : Int := if okL lA lB lC && okL mA mB mC then (if lA = mA ∧ lB = mB ∧ lC = mC then 2 else if lA * mB - mA * lB = 0 then 0 else 1) else -1
def mlOK (lA lB lC mA mB mC : Int) : Bool := decide (mlH lA lB lC mA mB mC = 1)
def mlXN (lA lB lC mA mB mC : Int) : Int := orZ (mlOK lA lB lC mA mB mC) (redN (lC * mB - mC * lB) (lA * mB - mA * lB))
def mlXD (lA lB lC mA mB mC : Int) : Int := orZ (mlOK lA lB lC mA mB mC) (redD (lC * mB - mC * lB) (lA * mB - mA * lB))
def mlYN (lA lB lC mA mB mC : Int) : Int := orZ (mlOK lA lB lC mA mB mC) (redN (lA * mC - mA * lC) (lA * mB - mA * lB))
def mlYD (lA lB lC mA mB mC : Int) : Int := orZ (mlOK lA lB lC mA mB mC) (redD (lA * mC - mA * lC) (lA * mB - mA * lB))
theorem ml_bad {lA lB lC mA mB mC : Int} (h : okL lA lB lC = false ∨ okL mA mB mC = false) : mlH lA lB lC mA mB mC = -1 ∧ mlXN lA lB lC mA mB mC = 0 ∧ mlXD lA lB lC mA mB mC = 0 ∧ mlYN lA lB lC mA mB mC = 0 ∧ mlYD lA lB lC mA mB mC = 0 := by
  have e : mlH lA lB lC mA mB mC = -1 := by
    unfold mlH
    rw [if_neg]
    rw [Bool.and_eq_true]
    rintro ⟨h1, h2⟩
    rcases h with h | h
    · rw [h1] at h; exact Bool.noConfusion h
    · rw [h2] at h; exact Bool.noConfusion h
  have e2 : mlOK lA lB lC mA mB mC = false := by unfold mlOK; rw [e]; decide
  refine ⟨e, ?_, ?_, ?_, ?_⟩
  · unfold mlXN; rw [e2]; rfl
  · unfold mlXD; rw [e2]; rfl
  · unfold mlYN; rw [e2]; rfl
  · unfold mlYD; rw [e2]; rfl
theorem ml_same {lA lB lC mA mB mC : Int} (h1 : okL lA lB lC = true) (h2 : okL mA mB mC = true) (h : lA = mA ∧ lB = mB ∧ lC = mC) : mlH lA lB lC mA mB mC = 2 ∧ mlXN lA lB lC mA mB mC = 0 ∧ mlXD lA lB lC mA mB mC = 0 ∧ mlYN lA lB lC mA mB mC = 0 ∧ mlYD lA lB lC mA mB mC = 0 := by
  have e : mlH lA lB lC mA mB mC = 2 := by
    unfold mlH
    rw [if_pos (by rw [h1, h2]; rfl), if_pos h]
  have e2 : mlOK lA lB lC mA mB mC = false := by unfold mlOK; rw [e]; decide
  refine ⟨e, ?_, ?_, ?_, ?_⟩
  · unfold mlXN; rw [e2]; rfl
  · unfold mlXD; rw [e2]; rfl
  · unfold mlYN; rw [e2]; rfl
  · unfold mlYD; rw [e2]; rfl
theorem ml_par {lA lB lC mA mB mC : Int} (h1 : okL lA lB lC = true) (h2 : okL mA mB mC = true) (h : ¬ (lA = mA ∧ lB = mB ∧ lC = mC)) (h0 : lA * mB - mA * lB = 0) : mlH lA lB lC mA mB mC = 0 ∧ mlXN lA lB lC mA mB mC = 0 ∧ mlXD lA lB lC mA mB mC = 0 ∧ mlYN lA lB lC mA mB mC = 0 ∧ mlYD lA lB lC mA mB mC = 0 := by
  have e : mlH lA lB lC mA mB mC = 0 := by
    unfold mlH
    rw [if_pos (by rw [h1, h2]; rfl), if_neg h, if_pos h0]
  have e2 : mlOK lA lB lC mA mB mC = false := by unfold mlOK; rw [e]; decide
  refine ⟨e, ?_, ?_, ?_, ?_⟩
  · unfold mlXN; rw [e2]; rfl
  · unfold mlXD; rw [e2]; rfl
  · unfold mlYN; rw [e2]; rfl
  · unfold mlYD; rw [e2]; rfl
theorem ml_one {lA lB lC mA mB mC : Int} (h1 : okL lA lB lC = true) (h2 : okL mA mB mC = true) (h0 : lA * mB - mA * lB ≠ 0) : mlH lA lB lC mA mB mC = 1 ∧ mlXN lA lB lC mA mB mC = redN (lC * mB - mC * lB) (lA * mB - mA * lB) ∧ mlXD lA lB lC mA mB mC = redD (lC * mB - mC * lB) (lA * mB - mA * lB) ∧ mlYN lA lB lC mA mB mC = redN (lA * mC - mA * lC) (lA * mB - mA * lB) ∧ mlYD lA lB lC mA mB mC = redD (lA * mC - mA * lC) (lA * mB - mA * lB) := by
  have e : mlH lA lB lC mA mB mC = 1 := by
    unfold mlH
    rw [if_pos (by rw [h1, h2]; rfl), if_neg (by rintro ⟨rfl, rfl, rfl⟩; omega), if_neg h0]
  have e2 : mlOK lA lB lC mA mB mC = true := by unfold mlOK; rw [e]; decide
  refine ⟨e, ?_, ?_, ?_, ?_⟩
  · unfold mlXN; rw [e2]; rfl
  · unfold mlXD; rw [e2]; rfl
  · unfold mlYN; rw [e2]; rfl
  · unfold mlYD; rw [e2]; rfl
theorem i_MeetLines (lA : Int) (lB : Int) (lC : Int) (mA : Int) (mB : Int) (mC : Int) : RunsTo Try.prog 41 [(.agg [(.int .i64 (.v fun _ => lA) (-20000000) 20000000), (.int .i64 (.v fun _ => lB) (-20000000) 20000000), (.int .i64 (.v fun _ => lC) (-20000000) 20000000)]), (.agg [(.int .i64 (.v fun _ => mA) (-20000000) 20000000), (.int .i64 (.v fun _ => mB) (-20000000) 20000000), (.int .i64 (.v fun _ => mC) (-20000000) 20000000)])] [] (.tup [(.agg [(.int .i64 (.v fun _ => mlXN lA lB lC mA mB mC) (-4000000000000000000) 4000000000000000000), (.int .i64 (.v fun _ => mlXD lA lB lC mA mB mC) (-4000000000000000000) 4000000000000000000), (.int .i64 (.v fun _ => mlYN lA lB lC mA mB mC) (-4000000000000000000) 4000000000000000000), (.int .i64 (.v fun _ => mlYD lA lB lC mA mB mC) (-4000000000000000000) 4000000000000000000)]), (.int .i64 (.v fun _ => mlH lA lB lC mA mB mC) (-1) 2)]) [] := by
  refine RunsTo.go env Try.func41 rfl Try.call41 rfl rfl (fun _ _ => (.call (c_i_Line_valid lA lB lC) (.ite .ret (.call (c_i_Line_valid mA mB mC) (.ite .ret (.ite .ret (.ite .ret (.callH (c_i_reduced ((lC * mB) - (mC * lB)) ((lA * mB) - (mA * lB))) (.callH (c_i_reduced ((lA * mC) - (mA * lC)) ((lA * mB) - (mA * lB))) .ret))))))))) (G := ((((-20000000) ≤ lA ∧ lA ≤ 20000000) ∧ (((-20000000) ≤ lB ∧ lB ≤ 20000000) ∧ ((-20000000) ≤ lC ∧ lC ≤ 20000000))) ∧ (((-20000000) ≤ mA ∧ mA ≤ 20000000) ∧ (((-20000000) ≤ mB ∧ mB ≤ 20000000) ∧ ((-20000000) ≤ mC ∧ mC ≤ 20000000)))) → (True) → (((lA = lA) ∧ ((lB = lB) ∧ (lC = lC))) ∧ ((((okL lA lB lC) = false) → ((((0 : Int) = (mlXN lA lB lC mA mB mC)) ∧ (((0 : Int) = (mlXD lA lB lC mA mB mC)) ∧ (((0 : Int) = (mlYN lA lB lC mA mB mC)) ∧ ((0 : Int) = (mlYD lA lB lC mA mB mC))))) ∧ (((-1) : Int) = (mlH lA lB lC mA mB mC)))) ∧ (((okL lA lB lC) = true) → (((mA = mA) ∧ ((mB = mB) ∧ (mC = mC))) ∧ ((((okL mA mB mC) = false) → ((((0 : Int) = (mlXN lA lB lC mA mB mC)) ∧ (((0 : Int) = (mlXD lA lB lC mA mB mC)) ∧ (((0 : Int) = (mlYN lA lB lC mA mB mC)) ∧ ((0 : Int) = (mlYD lA lB lC mA mB mC))))) ∧ (((-1) : Int) = (mlH lA lB lC mA mB mC)))) ∧ (((okL mA mB mC) = true) → (((((lA = mA) ∧ (((lB = mB) ∧ (lC = mC))))) → ((((0 : Int) = (mlXN lA lB lC mA mB mC)) ∧ (((0 : Int) = (mlXD lA lB lC mA mB mC)) ∧ (((0 : Int) = (mlYN lA lB lC mA mB mC)) ∧ ((0 : Int) = (mlYD lA lB lC mA mB mC))))) ∧ ((2 : Int) = (mlH lA lB lC mA mB mC)))) ∧ ((((lA ≠ mA) ∨ (((lB ≠ mB) ∨ (lC ≠ mC))))) → (((((lA * mB) - (mA * lB)) = 0) → ((((0 : Int) = (mlXN lA lB lC mA mB mC)) ∧ (((0 : Int) = (mlXD lA lB lC mA mB mC)) ∧ (((0 : Int) = (mlYN lA lB lC mA mB mC)) ∧ ((0 : Int) = (mlYD lA lB lC mA mB mC))))) ∧ ((0 : Int) = (mlH lA lB lC mA mB mC)))) ∧ ((((lA * mB) - (mA * lB)) ≠ 0) → (((((lA * mB) - (mA * lB)) : Int) ≠ 0) ∧ (((((lC * mB) - (mC * lB)) = ((lC * mB) - (mC * lB))) ∧ (((lA * mB) - (mA * lB)) = ((lA * mB) - (mA * lB)))) ∧ (((((lA * mB) - (mA * lB)) : Int) ≠ 0) ∧ (((((lA * mC) - (mA * lC)) = ((lA * mC) - (mA * lC))) ∧ (((lA * mB) - (mA * lB)) = ((lA * mB) - (mA * lB)))) ∧ ((((redN ((lC * mB) - (mC * lB)) ((lA * mB) - (mA * lB))) = (mlXN lA lB lC mA mB mC)) ∧ (((redD ((lC * mB) - (mC * lB)) ((lA * mB) - (mA * lB))) = (mlXD lA lB lC mA mB mC)) ∧ (((redN ((lA * mC) - (mA * lC)) ((lA * mB) - (mA * lB))) = (mlYN lA lB lC mA mB mC)) ∧ ((redD ((lA * mC) - (mA * lC)) ((lA * mB) - (mA * lB))) = (mlYD lA lB lC mA mB mC))))) ∧ ((1 : Int) = (mlH lA lB lC mA mB mC)))))))))))))))))) (by kernel_rfl) ?_
  intro h1 h2
  refine ⟨⟨rfl, ⟨rfl, rfl⟩⟩, ?_, ?_⟩
  · intro c1
    refine ⟨?_, ?_⟩
    · refine ⟨?_, ?_, ?_, ?_⟩
      · (try simp only [decide_eq_true_eq, decide_eq_false_iff_not] at *); first | (have hm := ml_bad (lA := lA) (lB := lB) (lC := lC) (mA := mA) (mB := mB) (mC := mC) (by first | (simp_all; done) | fail); omega) | (have hm := ml_same (lA := lA) (lB := lB) (lC := lC) (mA := mA) (mB := mB) (mC := mC) (by assumption) (by assumption) (by omega); omega) | (have hm := ml_par (lA := lA) (lB := lB) (lC := lC) (mA := mA) (mB := mB) (mC := mC) (by assumption) (by assumption) (by omega) (by omega); omega) | (have hm := ml_one (lA := lA) (lB := lB) (lC := lC) (mA := mA) (mB := mB) (mC := mC) (by assumption) (by assumption) (by omega); omega)
      · (try simp only [decide_eq_true_eq, decide_eq_false_iff_not] at *); first | (have hm := ml_bad (lA := lA) (lB := lB) (lC := lC) (mA := mA) (mB := mB) (mC := mC) (by first | (simp_all; done) | fail); omega) | (have hm := ml_same (lA := lA) (lB := lB) (lC := lC) (mA := mA) (mB := mB) (mC := mC) (by assumption) (by assumption) (by omega); omega) | (have hm := ml_par (lA := lA) (lB := lB) (lC := lC) (mA := mA) (mB := mB) (mC := mC) (by assumption) (by assumption) (by omega) (by omega); omega) | (have hm := ml_one (lA := lA) (lB := lB) (lC := lC) (mA := mA) (mB := mB) (mC := mC) (by assumption) (by assumption) (by omega); omega)
      · (try simp only [decide_eq_true_eq, decide_eq_false_iff_not] at *); first | (have hm := ml_bad (lA := lA) (lB := lB) (lC := lC) (mA := mA) (mB := mB) (mC := mC) (by first | (simp_all; done) | fail); omega) | (have hm := ml_same (lA := lA) (lB := lB) (lC := lC) (mA := mA) (mB := mB) (mC := mC) (by assumption) (by assumption) (by omega); omega) | (have hm := ml_par (lA := lA) (lB := lB) (lC := lC) (mA := mA) (mB := mB) (mC := mC) (by assumption) (by assumption) (by omega) (by omega); omega) | (have hm := ml_one (lA := lA) (lB := lB) (lC := lC) (mA := mA) (mB := mB) (mC := mC) (by assumption) (by assumption) (by omega); omega)
      · (try simp only [decide_eq_true_eq, decide_eq_false_iff_not] at *); first | (have hm := ml_bad (lA := lA) (lB := lB) (lC := lC) (mA := mA) (mB := mB) (mC := mC) (by first | (simp_all; done) | fail); omega) | (have hm := ml_same (lA := lA) (lB := lB) (lC := lC) (mA := mA) (mB := mB) (mC := mC) (by assumption) (by assumption) (by omega); omega) | (have hm := ml_par (lA := lA) (lB := lB) (lC := lC) (mA := mA) (mB := mB) (mC := mC) (by assumption) (by assumption) (by omega) (by omega); omega) | (have hm := ml_one (lA := lA) (lB := lB) (lC := lC) (mA := mA) (mB := mB) (mC := mC) (by assumption) (by assumption) (by omega); omega)
    · (try simp only [decide_eq_true_eq, decide_eq_false_iff_not] at *); first | (have hm := ml_bad (lA := lA) (lB := lB) (lC := lC) (mA := mA) (mB := mB) (mC := mC) (by first | (simp_all; done) | fail); omega) | (have hm := ml_same (lA := lA) (lB := lB) (lC := lC) (mA := mA) (mB := mB) (mC := mC) (by assumption) (by assumption) (by omega); omega) | (have hm := ml_par (lA := lA) (lB := lB) (lC := lC) (mA := mA) (mB := mB) (mC := mC) (by assumption) (by assumption) (by omega) (by omega); omega) | (have hm := ml_one (lA := lA) (lB := lB) (lC := lC) (mA := mA) (mB := mB) (mC := mC) (by assumption) (by assumption) (by omega); omega)
  · intro c2
    refine ⟨⟨rfl, ⟨rfl, rfl⟩⟩, ?_, ?_⟩
    · intro c3
      refine ⟨?_, ?_⟩
      · refine ⟨?_, ?_, ?_, ?_⟩
        · (try simp only [decide_eq_true_eq, decide_eq_false_iff_not] at *); first | (have hm := ml_bad (lA := lA) (lB := lB) (lC := lC) (mA := mA) (mB := mB) (mC := mC) (by first | (simp_all; done) | fail); omega) | (have hm := ml_same (lA := lA) (lB := lB) (lC := lC) (mA := mA) (mB := mB) (mC := mC) (by assumption) (by assumption) (by omega); omega) | (have hm := ml_par (lA := lA) (lB := lB) (lC := lC) (mA := mA) (mB := mB) (mC := mC) (by assumption) (by assumption) (by omega) (by omega); omega) | (have hm := ml_one (lA := lA) (lB := lB) (lC := lC) (mA := mA) (mB := mB) (mC := mC) (by assumption) (by assumption) (by omega); omega)
        · (try simp only [decide_eq_true_eq, decide_eq_false_iff_not] at *); first | (have hm := ml_bad (lA := lA) (lB := lB) (lC := lC) (mA := mA) (mB := mB) (mC := mC) (by first | (simp_all; done) | fail); omega) | (have hm := ml_same (lA := lA) (lB := lB) (lC := lC) (mA := mA) (mB := mB) (mC := mC) (by assumption) (by assumption) (by omega); omega) | (have hm := ml_par (lA := lA) (lB := lB) (lC := lC) (mA := mA) (mB := mB) (mC := mC) (by assumption) (by assumption) (by omega) (by omega); omega) | (have hm := ml_one (lA := lA) (lB := lB) (lC := lC) (mA := mA) (mB := mB) (mC := mC) (by assumption) (by assumption) (by omega); omega)
        · (try simp only [decide_eq_true_eq, decide_eq_false_iff_not] at *); first | (have hm := ml_bad (lA := lA) (lB := lB) (lC := lC) (mA := mA) (mB := mB) (mC := mC) (by first | (simp_all; done) | fail); omega) | (have hm := ml_same (lA := lA) (lB := lB) (lC := lC) (mA := mA) (mB := mB) (mC := mC) (by assumption) (by assumption) (by omega); omega) | (have hm := ml_par (lA := lA) (lB := lB) (lC := lC) (mA := mA) (mB := mB) (mC := mC) (by assumption) (by assumption) (by omega) (by omega); omega) | (have hm := ml_one (lA := lA) (lB := lB) (lC := lC) (mA := mA) (mB := mB) (mC := mC) (by assumption) (by assumption) (by omega); omega)
        · (try simp only [decide_eq_true_eq, decide_eq_false_iff_not] at *); first | (have hm := ml_bad (lA := lA) (lB := lB) (lC := lC) (mA := mA) (mB := mB) (mC := mC) (by first | (simp_all; done) | fail); omega) | (have hm := ml_same (lA := lA) (lB := lB) (lC := lC) (mA := mA) (mB := mB) (mC := mC) (by assumption) (by assumption) (by omega); omega) | (have hm := ml_par (lA := lA) (lB := lB) (lC := lC) (mA := mA) (mB := mB) (mC := mC) (by assumption) (by assumption) (by omega) (by omega); omega) | (have hm := ml_one (lA := lA) (lB := lB) (lC := lC) (mA := mA) (mB := mB) (mC := mC) (by assumption) (by assumption) (by omega); omega)
      · (try simp only [decide_eq_true_eq, decide_eq_false_iff_not] at *); first | (have hm := ml_bad (lA := lA) (lB := lB) (lC := lC) (mA := mA) (mB := mB) (mC := mC) (by first | (simp_all; done) | fail); omega) | (have hm := ml_same (lA := lA) (lB := lB) (lC := lC) (mA := mA) (mB := mB) (mC := mC) (by assumption) (by assumption) (by omega); omega) | (have hm := ml_par (lA := lA) (lB := lB) (lC := lC) (mA := mA) (mB := mB) (mC := mC) (by assumption) (by assumption) (by omega) (by omega); omega) | (have hm := ml_one (lA := lA) (lB := lB) (lC := lC) (mA := mA) (mB := mB) (mC := mC) (by assumption) (by assumption) (by omega); omega)
    · intro c4
      refine ⟨?_, ?_⟩
      · intro c5
        refine ⟨?_, ?_⟩
        · refine ⟨?_, ?_, ?_, ?_⟩
          · (try simp only [decide_eq_true_eq, decide_eq_false_iff_not] at *); first | (have hm := ml_bad (lA := lA) (lB := lB) (lC := lC) (mA := mA) (mB := mB) (mC := mC) (by first | (simp_all; done) | fail); omega) | (have hm := ml_same (lA := lA) (lB := lB) (lC := lC) (mA := mA) (mB := mB) (mC := mC) (by assumption) (by assumption) (by omega); omega) | (have hm := ml_par (lA := lA) (lB := lB) (lC := lC) (mA := mA) (mB := mB) (mC := mC) (by assumption) (by assumption) (by omega) (by omega); omega) | (have hm := ml_one (lA := lA) (lB := lB) (lC := lC) (mA := mA) (mB := mB) (mC := mC) (by assumption) (by assumption) (by omega); omega)
          · (try simp only [decide_eq_true_eq, decide_eq_false_iff_not] at *); first | (have hm := ml_bad (lA := lA) (lB := lB) (lC := lC) (mA := mA) (mB := mB) (mC := mC) (by first | (simp_all; done) | fail); omega) | (have hm := ml_same (lA := lA) (lB := lB) (lC := lC) (mA := mA) (mB := mB) (mC := mC) (by assumption) (by assumption) (by omega); omega) | (have hm := ml_par (lA := lA) (lB := lB) (lC := lC) (mA := mA) (mB := mB) (mC := mC) (by assumption) (by assumption) (by omega) (by omega); omega) | (have hm := ml_one (lA := lA) (lB := lB) (lC := lC) (mA := mA) (mB := mB) (mC := mC) (by assumption) (by assumption) (by omega); omega)
          · (try simp only [decide_eq_true_eq, decide_eq_false_iff_not] at *); first | (have hm := ml_bad (lA := lA) (lB := lB) (lC := lC) (mA := mA) (mB := mB) (mC := mC) (by first | (simp_all; done) | fail); omega) | (have hm := ml_same (lA := lA) (lB := lB) (lC := lC) (mA := mA) (mB := mB) (mC := mC) (by assumption) (by assumption) (by omega); omega) | (have hm := ml_par (lA := lA) (lB := lB) (lC := lC) (mA := mA) (mB := mB) (mC := mC) (by assumption) (by assumption) (by omega) (by omega); omega) | (have hm := ml_one (lA := lA) (lB := lB) (lC := lC) (mA := mA) (mB := mB) (mC := mC) (by assumption) (by assumption) (by omega); omega)
          · (try simp only [decide_eq_true_eq, decide_eq_false_iff_not] at *); first | (have hm := ml_bad (lA := lA) (lB := lB) (lC := lC) (mA := mA) (mB := mB) (mC := mC) (by first | (simp_all; done) | fail); omega) | (have hm := ml_same (lA := lA) (lB := lB) (lC := lC) (mA := mA) (mB := mB) (mC := mC) (by assumption) (by assumption) (by omega); omega) | (have hm := ml_par (lA := lA) (lB := lB) (lC := lC) (mA := mA) (mB := mB) (mC := mC) (by assumption) (by assumption) (by omega) (by omega); omega) | (have hm := ml_one (lA := lA) (lB := lB) (lC := lC) (mA := mA) (mB := mB) (mC := mC) (by assumption) (by assumption) (by omega); omega)
        · (try simp only [decide_eq_true_eq, decide_eq_false_iff_not] at *); first | (have hm := ml_bad (lA := lA) (lB := lB) (lC := lC) (mA := mA) (mB := mB) (mC := mC) (by first | (simp_all; done) | fail); omega) | (have hm := ml_same (lA := lA) (lB := lB) (lC := lC) (mA := mA) (mB := mB) (mC := mC) (by assumption) (by assumption) (by omega); omega) | (have hm := ml_par (lA := lA) (lB := lB) (lC := lC) (mA := mA) (mB := mB) (mC := mC) (by assumption) (by assumption) (by omega) (by omega); omega) | (have hm := ml_one (lA := lA) (lB := lB) (lC := lC) (mA := mA) (mB := mB) (mC := mC) (by assumption) (by assumption) (by omega); omega)
      · intro c6
        refine ⟨?_, ?_⟩
        · intro c7
          refine ⟨?_, ?_⟩
          · refine ⟨?_, ?_, ?_, ?_⟩
            · (try simp only [decide_eq_true_eq, decide_eq_false_iff_not] at *); first | (have hm := ml_bad (lA := lA) (lB := lB) (lC := lC) (mA := mA) (mB := mB) (mC := mC) (by first | (simp_all; done) | fail); omega) | (have hm := ml_same (lA := lA) (lB := lB) (lC := lC) (mA := mA) (mB := mB) (mC := mC) (by assumption) (by assumption) (by omega); omega) | (have hm := ml_par (lA := lA) (lB := lB) (lC := lC) (mA := mA) (mB := mB) (mC := mC) (by assumption) (by assumption) (by omega) (by omega); omega) | (have hm := ml_one (lA := lA) (lB := lB) (lC := lC) (mA := mA) (mB := mB) (mC := mC) (by assumption) (by assumption) (by omega); omega)
            · (try simp only [decide_eq_true_eq, decide_eq_false_iff_not] at *); first | (have hm := ml_bad (lA := lA) (lB := lB) (lC := lC) (mA := mA) (mB := mB) (mC := mC) (by first | (simp_all; done) | fail); omega) | (have hm := ml_same (lA := lA) (lB := lB) (lC := lC) (mA := mA) (mB := mB) (mC := mC) (by assumption) (by assumption) (by omega); omega) | (have hm := ml_par (lA := lA) (lB := lB) (lC := lC) (mA := mA) (mB := mB) (mC := mC) (by assumption) (by assumption) (by omega) (by omega); omega) | (have hm := ml_one (lA := lA) (lB := lB) (lC := lC) (mA := mA) (mB := mB) (mC := mC) (by assumption) (by assumption) (by omega); omega)
            · (try simp only [decide_eq_true_eq, decide_eq_false_iff_not] at *); first | (have hm := ml_bad (lA := lA) (lB := lB) (lC := lC) (mA := mA) (mB := mB) (mC := mC) (by first | (simp_all; done) | fail); omega) | (have hm := ml_same (lA := lA) (lB := lB) (lC := lC) (mA := mA) (mB := mB) (mC := mC) (by assumption) (by assumption) (by omega); omega) | (have hm := ml_par (lA := lA) (lB := lB) (lC := lC) (mA := mA) (mB := mB) (mC := mC) (by assumption) (by assumption) (by omega) (by omega); omega) | (have hm := ml_one (lA := lA) (lB := lB) (lC := lC) (mA := mA) (mB := mB) (mC := mC) (by assumption) (by assumption) (by omega); omega)
            · (try simp only [decide_eq_true_eq, decide_eq_false_iff_not] at *); first | (have hm := ml_bad (lA := lA) (lB := lB) (lC := lC) (mA := mA) (mB := mB) (mC := mC) (by first | (simp_all; done) | fail); omega) | (have hm := ml_same (lA := lA) (lB := lB) (lC := lC) (mA := mA) (mB := mB) (mC := mC) (by assumption) (by assumption) (by omega); omega) | (have hm := ml_par (lA := lA) (lB := lB) (lC := lC) (mA := mA) (mB := mB) (mC := mC) (by assumption) (by assumption) (by omega) (by omega); omega) | (have hm := ml_one (lA := lA) (lB := lB) (lC := lC) (mA := mA) (mB := mB) (mC := mC) (by assumption) (by assumption) (by omega); omega)
          · (try simp only [decide_eq_true_eq, decide_eq_false_iff_not] at *); first | (have hm := ml_bad (lA := lA) (lB := lB) (lC := lC) (mA := mA) (mB := mB) (mC := mC) (by first | (simp_all; done) | fail); omega) | (have hm := ml_same (lA := lA) (lB := lB) (lC := lC) (mA := mA) (mB := mB) (mC := mC) (by assumption) (by assumption) (by omega); omega) | (have hm := ml_par (lA := lA) (lB := lB) (lC := lC) (mA := mA) (mB := mB) (mC := mC) (by assumption) (by assumption) (by omega) (by omega); omega) | (have hm := ml_one (lA := lA) (lB := lB) (lC := lC) (mA := mA) (mB := mB) (mC := mC) (by assumption) (by assumption) (by omega); omega)
        · intro c8
          refine ⟨?_, ⟨rfl, rfl⟩, ?_, ⟨rfl, rfl⟩, ?_, ?_⟩
          · omega
          · omega
          · refine ⟨?_, ?_, ?_, ?_⟩
            · (try simp only [decide_eq_true_eq, decide_eq_false_iff_not] at *); first | (have hm := ml_bad (lA := lA) (lB := lB) (lC := lC) (mA := mA) (mB := mB) (mC := mC) (by first | (simp_all; done) | fail); omega) | (have hm := ml_same (lA := lA) (lB := lB) (lC := lC) (mA := mA) (mB := mB) (mC := mC) (by assumption) (by assumption) (by omega); omega) | (have hm := ml_par (lA := lA) (lB := lB) (lC := lC) (mA := mA) (mB := mB) (mC := mC) (by assumption) (by assumption) (by omega) (by omega); omega) | (have hm := ml_one (lA := lA) (lB := lB) (lC := lC) (mA := mA) (mB := mB) (mC := mC) (by assumption) (by assumption) (by omega); omega)
            · (try simp only [decide_eq_true_eq, decide_eq_false_iff_not] at *); first | (have hm := ml_bad (lA := lA) (lB := lB) (lC := lC) (mA := mA) (mB := mB) (mC := mC) (by first | (simp_all; done) | fail); omega) | (have hm := ml_same (lA := lA) (lB := lB) (lC := lC) (mA := mA) (mB := mB) (mC := mC) (by assumption) (by assumption) (by omega); omega) | (have hm := ml_par (lA := lA) (lB := lB) (lC := lC) (mA := mA) (mB := mB) (mC := mC) (by assumption) (by assumption) (by omega) (by omega); omega) | (have hm := ml_one (lA := lA) (lB := lB) (lC := lC) (mA := mA) (mB := mB) (mC := mC) (by assumption) (by assumption) (by omega); omega)
            · (try simp only [decide_eq_true_eq, decide_eq_false_iff_not] at *); first | (have hm := ml_bad (lA := lA) (lB := lB) (lC := lC) (mA := mA) (mB := mB) (mC := mC) (by first | (simp_all; done) | fail); omega) | (have hm := ml_same (lA := lA) (lB := lB) (lC := lC) (mA := mA) (mB := mB) (mC := mC) (by assumption) (by assumption) (by omega); omega) | (have hm := ml_par (lA := lA) (lB := lB) (lC := lC) (mA := mA) (mB := mB) (mC := mC) (by assumption) (by assumption) (by omega) (by omega); omega) | (have hm := ml_one (lA := lA) (lB := lB) (lC := lC) (mA := mA) (mB := mB) (mC := mC) (by assumption) (by assumption) (by omega); omega)
            · (try simp only [decide_eq_true_eq, decide_eq_false_iff_not] at *); first | (have hm := ml_bad (lA := lA) (lB := lB) (lC := lC) (mA := mA) (mB := mB) (mC := mC) (by first | (simp_all; done) | fail); omega) | (have hm := ml_same (lA := lA) (lB := lB) (lC := lC) (mA := mA) (mB := mB) (mC := mC) (by assumption) (by assumption) (by omega); omega) | (have hm := ml_par (lA := lA) (lB := lB) (lC := lC) (mA := mA) (mB := mB) (mC := mC) (by assumption) (by assumption) (by omega) (by omega); omega) | (have hm := ml_one (lA := lA) (lB := lB) (lC := lC) (mA := mA) (mB := mB) (mC := mC) (by assumption) (by assumption) (by omega); omega)
          · (try simp only [decide_eq_true_eq, decide_eq_false_iff_not] at *); first | (have hm := ml_bad (lA := lA) (lB := lB) (lC := lC) (mA := mA) (mB := mB) (mC := mC) (by first | (simp_all; done) | fail); omega) | (have hm := ml_same (lA := lA) (lB := lB) (lC := lC) (mA := mA) (mB := mB) (mC := mC) (by assumption) (by assumption) (by omega); omega) | (have hm := ml_par (lA := lA) (lB := lB) (lC := lC) (mA := mA) (mB := mB) (mC := mC) (by assumption) (by assumption) (by omega) (by omega); omega) | (have hm := ml_one (lA := lA) (lB := lB) (lC := lC) (mA := mA) (mB := mB) (mC := mC) (by assumption) (by assumption) (by omega); omega)
def c_i_MeetLines (lA : Int) (lB : Int) (lC : Int) (mA : Int) (mB : Int) (mC : Int) : Cn Try.prog := ⟨_, _, _, _, _, i_MeetLines lA lB lC mA mB mC⟩
theorem s_sameDirection (lA : Int) (lB : Int) (lC : Int) (mA : Int) (mB : Int) (mC : Int) : RunsTo Try.prog 80 [(.agg [(.int .i64 (.v fun _ => lA) (-20000000) 20000000), (.int .i64 (.v fun _ => lB) (-20000000) 20000000), (.int .i64 (.v fun _ => lC) (-20000000) 20000000)]), (.agg [(.int .i64 (.v fun _ => mA) (-20000000) 20000000), (.int .i64 (.v fun _ => mB) (-20000000) 20000000), (.int .i64 (.v fun _ => mC) (-20000000) 20000000)])] [] (.bool (.v fun _ => decide (lA * mB = mA * lB))) [] := by
  refine RunsTo.go env Try.func80 rfl Try.call80 rfl rfl (fun _ _ => .ret) (G := ((((-20000000) ≤ lA ∧ lA ≤ 20000000) ∧ (((-20000000) ≤ lB ∧ lB ≤ 20000000) ∧ ((-20000000) ≤ lC ∧ lC ≤ 20000000))) ∧ (((-20000000) ≤ mA ∧ mA ≤ 20000000) ∧ (((-20000000) ≤ mB ∧ mB ≤ 20000000) ∧ ((-20000000) ≤ mC ∧ mC ≤ 20000000)))) → (True) → (((lA * mB) = (mA * lB)) ↔ ((decide (lA * mB = mA * lB)) = true))) (by kernel_rfl) ?_
  intro h1 h2
  simp_all; done
def c_s_sameDirection (lA : Int) (lB : Int) (lC : Int) (mA : Int) (mB : Int) (mC : Int) : Cn Try.prog := ⟨_, _, _, _, _, s_sameDirection lA lB lC mA mB mC⟩
theorem s_meetLines (lA : Int) (lB : Int) (lC : Int) (mA : Int) (mB : Int) (mC : Int) (hp : lA * mB - mA * lB ≠ 0) : RunsTo Try.prog 81 [(.agg [(.int .i64 (.v fun _ => lA) (-20000000) 20000000), (.int .i64 (.v fun _ => lB) (-20000000) 20000000), (.int .i64 (.v fun _ => lC) (-20000000) 20000000)]), (.agg [(.int .i64 (.v fun _ => mA) (-20000000) 20000000), (.int .i64 (.v fun _ => mB) (-20000000) 20000000), (.int .i64 (.v fun _ => mC) (-20000000) 20000000)])] [] (.agg [(.int .i64 (.v fun _ => redN (lC * mB - mC * lB) (lA * mB - mA * lB)) (-4000000000000000000) 4000000000000000000), (.int .i64 (.v fun _ => redD (lC * mB - mC * lB) (lA * mB - mA * lB)) (-4000000000000000000) 4000000000000000000), (.int .i64 (.v fun _ => redN (lA * mC - mA * lC) (lA * mB - mA * lB)) (-4000000000000000000) 4000000000000000000), (.int .i64 (.v fun _ => redD (lA * mC - mA * lC) (lA * mB - mA * lB)) (-4000000000000000000) 4000000000000000000)]) [] := by
  refine RunsTo.go env Try.func81 rfl Try.call81 rfl rfl (fun _ _ => (.callH (c_s_ratio ((lC * mB) - (mC * lB)) ((lA * mB) - (mA * lB))) (.callH (c_s_ratio ((lA * mC) - (mA * lC)) ((lA * mB) - (mA * lB))) .ret))) (G := ((((-20000000) ≤ lA ∧ lA ≤ 20000000) ∧ (((-20000000) ≤ lB ∧ lB ≤ 20000000) ∧ ((-20000000) ≤ lC ∧ lC ≤ 20000000))) ∧ (((-20000000) ≤ mA ∧ mA ≤ 20000000) ∧ (((-20000000) ≤ mB ∧ mB ≤ 20000000) ∧ ((-20000000) ≤ mC ∧ mC ≤ 20000000)))) → (True) → (((((lA * mB) - (mA * lB)) : Int) ≠ 0) ∧ (((((lC * mB) - (mC * lB)) = ((lC * mB) - (mC * lB))) ∧ (((lA * mB) - (mA * lB)) = ((lA * mB) - (mA * lB)))) ∧ (((((lA * mB) - (mA * lB)) : Int) ≠ 0) ∧ (((((lA * mC) - (mA * lC)) = ((lA * mC) - (mA * lC))) ∧ (((lA * mB) - (mA * lB)) = ((lA * mB) - (mA * lB)))) ∧ (((redN ((lC * mB) - (mC * lB)) ((lA * mB) - (mA * lB))) = (redN (lC * mB - mC * lB) (lA * mB - mA * lB))) ∧ (((redD ((lC * mB) - (mC * lB)) ((lA * mB) - (mA * lB))) = (redD (lC * mB - mC * lB) (lA * mB - mA * lB))) ∧ (((redN ((lA * mC) - (mA * lC)) ((lA * mB) - (mA * lB))) = (redN (lA * mC - mA * lC) (lA * mB - mA * lB))) ∧ ((redD ((lA * mC) - (mA * lC)) ((lA * mB) - (mA * lB))) = (redD (lA * mC - mA * lC) (lA * mB - mA * lB))))))))))) (by kernel_rfl) ?_
  intro h1 h2
  refine ⟨?_, ⟨rfl, rfl⟩, ?_, ⟨rfl, rfl⟩, ?_, ?_, ?_, ?_⟩
  · omega
  · omega
  · rfl
  · rfl
  · rfl
  · rfl
def c_s_meetLines (lA : Int) (lB : Int) (lC : Int) (mA : Int) (mB : Int) (mC : Int) : CnH Try.prog := ⟨_, _, _, _, _, _, s_meetLines lA lB lC mA mB mC⟩
def sorOK (lA lB lC xN xD yN yD : Int) : Bool := okL lA lB lC && (okR xN xD && (okR yN yD && (decide (xD / gcdI xD yD * yD ≤ 20000000) && (decide (absI xN ≤ 10000 * xD) && decide (absI yN ≤ 10000 * yD)))))
def sorL (lA lB lC xN xD yN yD : Int) : Int := if sorOK lA lB lC xN xD yN yD = true then sgn (lA * (xN * (yD / gcdI xD yD)) + lB * (yN * (xD / gcdI xD yD)) - lC * (xD / gcdI xD yD * yD)) else 2
theorem sor_d {xN xD yN yD : Int} (hx : okR xN xD = true) (hy : okR yN yD = true) : 1 ≤ gcdI xD yD ∧ Int.tdiv xD (gcdI xD yD) = xD / gcdI xD yD ∧ Int.tdiv yD (gcdI xD yD) = yD / gcdI xD yD ∧ (1 ≤ xD / gcdI xD yD ∧ xD / gcdI xD yD ≤ 20000000) ∧ (1 ≤ yD / gcdI xD yD ∧ yD / gcdI xD yD ≤ 20000000) ∧
    Int.tdiv (xD / gcdI xD yD * yD) xD = yD / gcdI xD yD ∧ Int.tdiv (xD / gcdI xD yD * yD) yD = xD / gcdI xD yD ∧ xD * (yD / gcdI xD yD) = xD / gcdI xD yD * yD ∧ (1 ≤ xD / gcdI xD yD * yD ∧ xD / gcdI xD yD * yD ≤ 400000000000000) := by
  have ox := okR_bd hx
  have oy := okR_bd hy
  have hg := gcdI_pos xD yD (by omega)
  have h1 := gcdI_left xD yD
  have h2 := gcdI_right xD yD
  generalize gcdI xD yD = g at *
  obtain ⟨u, hu⟩ := h1
  obtain ⟨v, hv⟩ := h2
  have eu : xD / g = u := by rw [hu, Int.mul_ediv_cancel_left _ (by omega)]
  have ev : yD / g = v := by rw [hv, Int.mul_ediv_cancel_left _ (by omega)]
  have tu : Int.tdiv xD g = u := by rw [hu, Int.mul_tdiv_cancel_left _ (by omega)]
  have tv : Int.tdiv yD g = v := by rw [hv, Int.mul_tdiv_cancel_left _ (by omega)]
  rw [eu, ev, tu, tv]
  have e1 : u * yD = xD * v := by rw [hv, hu]; grind
  have pu : 1 ≤ u := by
    rcases (show 0 < u ∨ u ≤ 0 by omega) with h | h
    · omega
    · have := Int.mul_nonpos_of_nonneg_of_nonpos (show 0 ≤ g by omega) h; omega
  have pv : 1 ≤ v := by
    rcases (show 0 < v ∨ v ≤ 0 by omega) with h | h
    · omega
    · have := Int.mul_nonpos_of_nonneg_of_nonpos (show 0 ≤ g by omega) h; omega
  have lu : 1 * u ≤ g * u := Int.mul_le_mul_of_nonneg_right hg (by omega)
  have lv : 1 * v ≤ g * v := Int.mul_le_mul_of_nonneg_right hg (by omega)
  have m1 := mul_bd u yD 20000000 20000000 (by omega) (by omega) (by omega) (by omega)
  have m2 : 1 * 1 ≤ u * yD := Int.mul_le_mul pu oy.2.1.1 (by decide) (by omega)
  refine ⟨hg, rfl, rfl, ⟨pu, by omega⟩, ⟨pv, by omega⟩, ?_, ?_, e1.symm, by omega⟩
  · rw [e1, Int.mul_tdiv_cancel_left _ (by omega)]
  · rw [Int.mul_tdiv_cancel _ (by omega)]
theorem abs_mul_bd {n d w M : Int} (h : absI n ≤ M * d) (hw : 1 ≤ w) : -(M * (d * w)) ≤ n * w ∧ n * w ≤ M * (d * w) := by
  have h' : -(M * d) ≤ n ∧ n ≤ M * d := by unfold absI at h; omega
  have a := Int.mul_le_mul_of_nonneg_right h'.1 (show 0 ≤ w by omega)
  have b := Int.mul_le_mul_of_nonneg_right h'.2 (show 0 ≤ w by omega)
  rw [Int.neg_mul] at a
  rw [Int.mul_assoc] at a b
  exact ⟨a, b⟩
theorem sor_w {lA lB lC xN xD yN yD : Int} (hl : okL lA lB lC = true) (hx : okR xN xD = true) (hy : okR yN yD = true) (hd : xD / gcdI xD yD * yD ≤ 20000000) (h1 : absI xN ≤ 10000 * xD) (h2 : absI yN ≤ 10000 * yD) :
    sorOK lA lB lC xN xD yN yD = true ∧
    (-200000000000 ≤ xN * (yD / gcdI xD yD) ∧ xN * (yD / gcdI xD yD) ≤ 200000000000) ∧ (-200000000000 ≤ yN * (xD / gcdI xD yD) ∧ yN * (xD / gcdI xD yD) ≤ 200000000000) ∧
    (-400000000000000 ≤ lA * (xN * (yD / gcdI xD yD)) ∧ lA * (xN * (yD / gcdI xD yD)) ≤ 400000000000000) ∧ (-400000000000000 ≤ lB * (yN * (xD / gcdI xD yD)) ∧ lB * (yN * (xD / gcdI xD yD)) ≤ 400000000000000) ∧
    (-80000000000000 ≤ lC * (xD / gcdI xD yD * yD) ∧ lC * (xD / gcdI xD yD * yD) ≤ 80000000000000) ∧
    lA * xN * (yD / gcdI xD yD) = lA * (xN * (yD / gcdI xD yD)) ∧ lB * yN * (xD / gcdI xD yD) = lB * (yN * (xD / gcdI xD yD)) ∧ lC * (xD / gcdI xD yD) * yD = lC * (xD / gcdI xD yD * yD) := by
  obtain ⟨d1, d2, d3, d4, d5, d6, d7, d8, d9⟩ := sor_d hx hy
  have ox := okR_bd hx
  have oy := okR_bd hy
  have ol := okL_bd hl
  have a1 := abs_mul_bd h1 d5.1
  have a2 := abs_mul_bd h2 d4.1
  rw [d8] at a1
  rw [Int.mul_comm yD] at a2
  have hok : sorOK lA lB lC xN xD yN yD = true := by unfold sorOK; rw [hl, hx, hy, decide_eq_true hd, decide_eq_true h1, decide_eq_true h2]; rfl
  generalize gcdI xD yD = g at *
  have b1 := mul_bd lA (xN * (yD / g)) 2000 200000000000 (by omega) (by omega) (by omega) (by omega)
  have b2 := mul_bd lB (yN * (xD / g)) 2000 200000000000 (by omega) (by omega) (by omega) (by omega)
  have b3 := mul_bd lC (xD / g * yD) 4000000 20000000 (by omega) (by omega) (by omega) (by omega)
  exact ⟨hok, by omega, by omega, by omega, by omega, by omega, Int.mul_assoc _ _ _, Int.mul_assoc _ _ _, Int.mul_assoc _ _ _⟩
theorem sor_w2 {lA lB lC xN xD yN yD : Int} (hl : okL lA lB lC = true) (hx : okR xN xD = true) (hy : okR yN yD = true) (hd : xD / gcdI xD yD * yD ≤ 20000000) (h1 : absI xN ≤ 10000 * xD) (h2 : absI yN ≤ 10000 * yD) :
    IntKind.i64.wrap (lA * xN) = lA * xN ∧ IntKind.i64.wrap (lB * yN) = lB * yN ∧ IntKind.i64.wrap (lA * xN * (yD / gcdI xD yD)) = lA * (xN * (yD / gcdI xD yD)) ∧ IntKind.i64.wrap (lB * yN * (xD / gcdI xD yD)) = lB * (yN * (xD / gcdI xD yD)) ∧ IntKind.i64.wrap (lC * (xD / gcdI xD yD * yD)) = lC * (xD / gcdI xD yD * yD) ∧
    IntKind.i64.wrap (lA * (xN * (yD / gcdI xD yD)) + lB * (yN * (xD / gcdI xD yD))) = lA * (xN * (yD / gcdI xD yD)) + lB * (yN * (xD / gcdI xD yD)) ∧
    IntKind.i64.wrap (lA * (xN * (yD / gcdI xD yD)) + lB * (yN * (xD / gcdI xD yD)) - lC * (xD / gcdI xD yD * yD)) = lA * (xN * (yD / gcdI xD yD)) + lB * (yN * (xD / gcdI xD yD)) - lC * (xD / gcdI xD yD * yD) ∧
    sorL lA lB lC xN xD yN yD = sgn (lA * (xN * (yD / gcdI xD yD)) + lB * (yN * (xD / gcdI xD yD)) - lC * (xD / gcdI xD yD * yD)) := by
  obtain ⟨w0, w1, w2, w3, w4, w5, w6, w7, w8⟩ := sor_w hl hx hy hd h1 h2
  have ox := okR_bd hx
  have oy := okR_bd hy
  have ol := okL_bd hl
  have b1 := mul_bd lA xN 2000 100000000000 (by omega) (by omega) (by omega) (by omega)
  have b2 := mul_bd lB yN 2000 100000000000 (by omega) (by omega) (by omega) (by omega)
  rw [w6, w7]
  refine ⟨wrap_ok (by omega) (by omega), wrap_ok (by omega) (by omega), wrap_ok (by omega) (by omega), wrap_ok (by omega) (by omega), wrap_ok (by omega) (by omega), wrap_ok (by omega) (by omega), wrap_ok (by omega) (by omega), ?_⟩
  unfold sorL; rw [if_pos w0]
theorem sor_no {lA lB lC xN xD yN yD : Int} (h : okL lA lB lC = false ∨ okR xN xD = false ∨ okR yN yD = false ∨ 20000000 < xD / gcdI xD yD * yD ∨ 10000 * xD < absI xN ∨ 10000 * yD < absI yN) : sorL lA lB lC xN xD yN yD = 2 := by
  unfold sorL
  rw [if_neg]
  unfold sorOK
  simp only [Bool.and_eq_true, decide_eq_true_eq]
  rintro ⟨h1, h2, h3, h4, h5, h6⟩
  rcases h with h | h | h | h | h | h
  · rw [h1] at h; exact Bool.noConfusion h
  · rw [h2] at h; exact Bool.noConfusion h
  · rw [h3] at h; exact Bool.noConfusion h
  · omega
  · omega
  · omega
theorem i_reaches (rN : Int) (rD : Int) (hp : okR rN rD = true) : RunsTo Try.prog 86 [(.agg [(.int .i64 (.v fun _ => rN) (-4000000000000000000) 4000000000000000000), (.int .i64 (.v fun _ => rD) (-4000000000000000000) 4000000000000000000)])] [] (.bool (.v fun _ => decide (absI rN ≤ 10000 * rD))) [] := by
  refine RunsTo.go env Try.func86 rfl Try.call86 rfl rfl (fun _ _ => (.call (c_i_abs rN) .ret)) (G := (((-4000000000000000000) ≤ rN ∧ rN ≤ 4000000000000000000) ∧ ((-4000000000000000000) ≤ rD ∧ rD ≤ 4000000000000000000)) → (True) → ((rN = rN) ∧ (((absI rN) ≤ (IntKind.i64.wrap (10000 * rD))) ↔ ((decide (absI rN ≤ 10000 * rD)) = true)))) (by kernel_rfl) ?_
  intro h1 h2
  have hr := okR_bd hp
  have hw := wrap_ok (x := 10000 * rD) (by omega) (by omega)
  refine ⟨rfl, ?_⟩
  rw [hw]; simp; done
def c_i_reaches (rN : Int) (rD : Int) : CnH Try.prog := ⟨_, _, _, _, _, _, i_reaches rN rD⟩
theorem i_rpvalid (xN : Int) (xD : Int) (yN : Int) (yD : Int) : RunsTo Try.prog 84 [(.agg [(.int .i64 (.v fun _ => xN) (-4000000000000000000) 4000000000000000000), (.int .i64 (.v fun _ => xD) (-4000000000000000000) 4000000000000000000), (.int .i64 (.v fun _ => yN) (-4000000000000000000) 4000000000000000000), (.int .i64 (.v fun _ => yD) (-4000000000000000000) 4000000000000000000)])] [] (.bool (.v fun _ => okR xN xD && okR yN yD)) [] := by
  refine RunsTo.go env Try.func84 rfl Try.call84 rfl rfl (fun _ _ => (.call (c_i_rvalid xN xD) (.ite (.call (c_i_rvalid yN yD) .ret) .ret))) (G := (((-4000000000000000000) ≤ xN ∧ xN ≤ 4000000000000000000) ∧ (((-4000000000000000000) ≤ xD ∧ xD ≤ 4000000000000000000) ∧ (((-4000000000000000000) ≤ yN ∧ yN ≤ 4000000000000000000) ∧ ((-4000000000000000000) ≤ yD ∧ yD ≤ 4000000000000000000)))) → (True) → (((xN = xN) ∧ (xD = xD)) ∧ ((((okR xN xD) = true) → (((yN = yN) ∧ (yD = yD)) ∧ (((okR yN yD) = true) ↔ ((okR xN xD && okR yN yD) = true)))) ∧ (((okR xN xD) = false) → ((okR xN xD && okR yN yD) = false))))) (by kernel_rfl) ?_
  intro h1 h2
  refine ⟨⟨rfl, rfl⟩, ?_, ?_⟩
  · intro c1
    refine ⟨⟨rfl, rfl⟩, ?_⟩
    simp_all; done
  · intro c2
    simp_all; done
def c_i_rpvalid (xN : Int) (xD : Int) (yN : Int) (yD : Int) : Cn Try.prog := ⟨_, _, _, _, _, i_rpvalid xN xD yN yD⟩
theorem i_SideOfRat (lA : Int) (lB : Int) (lC : Int) (xN : Int) (xD : Int) (yN : Int) (yD : Int) : RunsTo Try.prog 31 [(.agg [(.int .i64 (.v fun _ => lA) (-20000000) 20000000), (.int .i64 (.v fun _ => lB) (-20000000) 20000000), (.int .i64 (.v fun _ => lC) (-20000000) 20000000)]), (.agg [(.int .i64 (.v fun _ => xN) (-4000000000000000000) 4000000000000000000), (.int .i64 (.v fun _ => xD) (-4000000000000000000) 4000000000000000000), (.int .i64 (.v fun _ => yN) (-4000000000000000000) 4000000000000000000), (.int .i64 (.v fun _ => yD) (-4000000000000000000) 4000000000000000000)])] [] (.int .i64 (.v fun _ => sorL lA lB lC xN xD yN yD) (-1) 2) [] := by
  refine RunsTo.go env Try.func31 rfl Try.call31 rfl rfl (fun _ _ => (.call (c_i_Line_valid lA lB lC) (.ite .ret (.call (c_i_rpvalid xN xD yN yD) (.ite .ret (.call (c_i_divisor xD yD) (.need (.ite .ret (.callH (c_i_reaches xN xD) (.ite .ret (.callH (c_i_reaches yN yD) (.ite .ret (.need (.need (.call (c_i_sign (IntKind.i64.wrap ((IntKind.i64.wrap ((IntKind.i64.wrap ((IntKind.i64.wrap (lA * xN)) * (IntKind.i64.wrap (Int.tdiv (IntKind.i64.wrap ((Int.tdiv xD (gcdI xD yD)) * yD)) xD)))) + (IntKind.i64.wrap ((IntKind.i64.wrap (lB * yN)) * (IntKind.i64.wrap (Int.tdiv (IntKind.i64.wrap ((Int.tdiv xD (gcdI xD yD)) * yD)) yD)))))) - (IntKind.i64.wrap (lC * (IntKind.i64.wrap ((Int.tdiv xD (gcdI xD yD)) * yD))))))) .ret))))))))))))))) (G := ((((-20000000) ≤ lA ∧ lA ≤ 20000000) ∧ (((-20000000) ≤ lB ∧ lB ≤ 20000000) ∧ ((-20000000) ≤ lC ∧ lC ≤ 20000000))) ∧ (((-4000000000000000000) ≤ xN ∧ xN ≤ 4000000000000000000) ∧ (((-4000000000000000000) ≤ xD ∧ xD ≤ 4000000000000000000) ∧ (((-4000000000000000000) ≤ yN ∧ yN ≤ 4000000000000000000) ∧ ((-4000000000000000000) ≤ yD ∧ yD ≤ 4000000000000000000))))) → (True) → (((lA = lA) ∧ ((lB = lB) ∧ (lC = lC))) ∧ ((((okL lA lB lC) = false) → ((2 : Int) = (sorL lA lB lC xN xD yN yD))) ∧ (((okL lA lB lC) = true) → (((xN = xN) ∧ ((xD = xD) ∧ ((yN = yN) ∧ (yD = yD)))) ∧ ((((okR xN xD && okR yN yD) = false) → ((2 : Int) = (sorL lA lB lC xN xD yN yD))) ∧ (((okR xN xD && okR yN yD) = true) → (((xD = xD) ∧ (yD = yD)) ∧ (((gcdI xD yD) ≠ 0) ∧ (((20000000 < (IntKind.i64.wrap ((Int.tdiv xD (gcdI xD yD)) * yD))) → ((2 : Int) = (sorL lA lB lC xN xD yN yD))) ∧ (((IntKind.i64.wrap ((Int.tdiv xD (gcdI xD yD)) * yD)) ≤ 20000000) → ((okR xN xD = true) ∧ (((xN = xN) ∧ (xD = xD)) ∧ ((((decide (absI xN ≤ 10000 * xD)) = false) → ((2 : Int) = (sorL lA lB lC xN xD yN yD))) ∧ (((decide (absI xN ≤ 10000 * xD)) = true) → ((okR yN yD = true) ∧ (((yN = yN) ∧ (yD = yD)) ∧ ((((decide (absI yN ≤ 10000 * yD)) = false) → ((2 : Int) = (sorL lA lB lC xN xD yN yD))) ∧ (((decide (absI yN ≤ 10000 * yD)) = true) → ((xD ≠ 0) ∧ ((yD ≠ 0) ∧ (((IntKind.i64.wrap ((IntKind.i64.wrap ((IntKind.i64.wrap ((IntKind.i64.wrap (lA * xN)) * (IntKind.i64.wrap (Int.tdiv (IntKind.i64.wrap ((Int.tdiv xD (gcdI xD yD)) * yD)) xD)))) + (IntKind.i64.wrap ((IntKind.i64.wrap (lB * yN)) * (IntKind.i64.wrap (Int.tdiv (IntKind.i64.wrap ((Int.tdiv xD (gcdI xD yD)) * yD)) yD)))))) - (IntKind.i64.wrap (lC * (IntKind.i64.wrap ((Int.tdiv xD (gcdI xD yD)) * yD)))))) = ((IntKind.i64.wrap ((IntKind.i64.wrap ((IntKind.i64.wrap ((IntKind.i64.wrap (lA * xN)) * (IntKind.i64.wrap (Int.tdiv (IntKind.i64.wrap ((Int.tdiv xD (gcdI xD yD)) * yD)) xD)))) + (IntKind.i64.wrap ((IntKind.i64.wrap (lB * yN)) * (IntKind.i64.wrap (Int.tdiv (IntKind.i64.wrap ((Int.tdiv xD (gcdI xD yD)) * yD)) yD)))))) - (IntKind.i64.wrap (lC * (IntKind.i64.wrap ((Int.tdiv xD (gcdI xD yD)) * yD)))))))) ∧ ((sgn (IntKind.i64.wrap ((IntKind.i64.wrap ((IntKind.i64.wrap ((IntKind.i64.wrap (lA * xN)) * (IntKind.i64.wrap (Int.tdiv (IntKind.i64.wrap ((Int.tdiv xD (gcdI xD yD)) * yD)) xD)))) + (IntKind.i64.wrap ((IntKind.i64.wrap (lB * yN)) * (IntKind.i64.wrap (Int.tdiv (IntKind.i64.wrap ((Int.tdiv xD (gcdI xD yD)) * yD)) yD)))))) - (IntKind.i64.wrap (lC * (IntKind.i64.wrap ((Int.tdiv xD (gcdI xD yD)) * yD))))))) = (sorL lA lB lC xN xD yN yD)))))))))))))))))))))))) (by kernel_rfl) ?_
  intro h1 h2
  refine ⟨⟨rfl, ⟨rfl, rfl⟩⟩, ?_, ?_⟩
  · intro c1
    refine (sor_no ?_).symm; first | (simp_all; done) | fail
  · intro c2
    refine ⟨⟨rfl, ⟨rfl, ⟨rfl, rfl⟩⟩⟩, ?_, ?_⟩
    · intro c3
      have hf : (okR xN xD && okR yN yD) = false := (by assumption); refine (sor_no ?_).symm; rcases Bool.and_eq_false_iff.1 hf with h | h <;> rw [h] <;> simp; done
    · intro c4
      refine ⟨⟨rfl, rfl⟩, ?_, ?_, ?_⟩
      · have hxy : okR xN xD = true ∧ okR yN yD = true := (by first | assumption | exact ⟨by assumption, by assumption⟩ | (simp_all; done) | fail); obtain ⟨g1, g2, g3, g4, g5, g6, g7, g8, g9⟩ := sor_d hxy.1 hxy.2; have gw := wrap_ok (x := xD / gcdI xD yD * yD) (by omega) (by omega); have gx := wrap_ok (x := xD / gcdI xD yD) (by omega) (by omega); have gy := wrap_ok (x := yD / gcdI xD yD) (by omega) (by omega); have ox := okR_bd hxy.1; have oy := okR_bd hxy.2; simp only [g2, g3, gw, g6, g7, gx, gy, decide_eq_true_eq, decide_eq_false_iff_not] at *; first | omega | (refine (sor_no ?_).symm; omega) | (obtain ⟨w1, w2, w3, w4, w5, w6, w7, w8⟩ := sor_w2 (lA := lA) (lB := lB) (lC := lC) (xN := xN) (xD := xD) (yN := yN) (yD := yD) (by assumption) hxy.1 hxy.2 (by omega) (by omega) (by omega); simp only [w1, w2, w3, w4, w5, w6, w7, w8]; done)
      · intro c5
        have hxy : okR xN xD = true ∧ okR yN yD = true := (by first | assumption | exact ⟨by assumption, by assumption⟩ | (simp_all; done) | fail); obtain ⟨g1, g2, g3, g4, g5, g6, g7, g8, g9⟩ := sor_d hxy.1 hxy.2; have gw := wrap_ok (x := xD / gcdI xD yD * yD) (by omega) (by omega); have gx := wrap_ok (x := xD / gcdI xD yD) (by omega) (by omega); have gy := wrap_ok (x := yD / gcdI xD yD) (by omega) (by omega); have ox := okR_bd hxy.1; have oy := okR_bd hxy.2; simp only [g2, g3, gw, g6, g7, gx, gy, decide_eq_true_eq, decide_eq_false_iff_not] at *; first | omega | (refine (sor_no ?_).symm; omega) | (obtain ⟨w1, w2, w3, w4, w5, w6, w7, w8⟩ := sor_w2 (lA := lA) (lB := lB) (lC := lC) (xN := xN) (xD := xD) (yN := yN) (yD := yD) (by assumption) hxy.1 hxy.2 (by omega) (by omega) (by omega); simp only [w1, w2, w3, w4, w5, w6, w7, w8]; done)
      · intro c6
        refine ⟨?_, ⟨rfl, rfl⟩, ?_, ?_⟩
        · simp_all; done
        · intro c7
          refine (sor_no ?_).symm; first | (simp_all; done) | fail
        · intro c8
          refine ⟨?_, ⟨rfl, rfl⟩, ?_, ?_⟩
          · simp_all; done
          · intro c9
            refine (sor_no ?_).symm; first | (simp_all; done) | fail
          · intro c10
            refine ⟨?_, ?_, rfl, ?_⟩
            · have hxy : okR xN xD = true ∧ okR yN yD = true := (by first | assumption | exact ⟨by assumption, by assumption⟩ | (simp_all; done) | fail); obtain ⟨g1, g2, g3, g4, g5, g6, g7, g8, g9⟩ := sor_d hxy.1 hxy.2; have gw := wrap_ok (x := xD / gcdI xD yD * yD) (by omega) (by omega); have gx := wrap_ok (x := xD / gcdI xD yD) (by omega) (by omega); have gy := wrap_ok (x := yD / gcdI xD yD) (by omega) (by omega); have ox := okR_bd hxy.1; have oy := okR_bd hxy.2; simp only [g2, g3, gw, g6, g7, gx, gy, decide_eq_true_eq, decide_eq_false_iff_not] at *; first | omega | (refine (sor_no ?_).symm; omega) | (obtain ⟨w1, w2, w3, w4, w5, w6, w7, w8⟩ := sor_w2 (lA := lA) (lB := lB) (lC := lC) (xN := xN) (xD := xD) (yN := yN) (yD := yD) (by assumption) hxy.1 hxy.2 (by omega) (by omega) (by omega); simp only [w1, w2, w3, w4, w5, w6, w7, w8]; done)
            · have hxy : okR xN xD = true ∧ okR yN yD = true := (by first | assumption | exact ⟨by assumption, by assumption⟩ | (simp_all; done) | fail); obtain ⟨g1, g2, g3, g4, g5, g6, g7, g8, g9⟩ := sor_d hxy.1 hxy.2; have gw := wrap_ok (x := xD / gcdI xD yD * yD) (by omega) (by omega); have gx := wrap_ok (x := xD / gcdI xD yD) (by omega) (by omega); have gy := wrap_ok (x := yD / gcdI xD yD) (by omega) (by omega); have ox := okR_bd hxy.1; have oy := okR_bd hxy.2; simp only [g2, g3, gw, g6, g7, gx, gy, decide_eq_true_eq, decide_eq_false_iff_not] at *; first | omega | (refine (sor_no ?_).symm; omega) | (obtain ⟨w1, w2, w3, w4, w5, w6, w7, w8⟩ := sor_w2 (lA := lA) (lB := lB) (lC := lC) (xN := xN) (xD := xD) (yN := yN) (yD := yD) (by assumption) hxy.1 hxy.2 (by omega) (by omega) (by omega); simp only [w1, w2, w3, w4, w5, w6, w7, w8]; done)
            · have hxy : okR xN xD = true ∧ okR yN yD = true := (by first | assumption | exact ⟨by assumption, by assumption⟩ | (simp_all; done) | fail); obtain ⟨g1, g2, g3, g4, g5, g6, g7, g8, g9⟩ := sor_d hxy.1 hxy.2; have gw := wrap_ok (x := xD / gcdI xD yD * yD) (by omega) (by omega); have gx := wrap_ok (x := xD / gcdI xD yD) (by omega) (by omega); have gy := wrap_ok (x := yD / gcdI xD yD) (by omega) (by omega); have ox := okR_bd hxy.1; have oy := okR_bd hxy.2; simp only [g2, g3, gw, g6, g7, gx, gy, decide_eq_true_eq, decide_eq_false_iff_not] at *; first | omega | (refine (sor_no ?_).symm; omega) | (obtain ⟨w1, w2, w3, w4, w5, w6, w7, w8⟩ := sor_w2 (lA := lA) (lB := lB) (lC := lC) (xN := xN) (xD := xD) (yN := yN) (yD := yD) (by assumption) hxy.1 hxy.2 (by omega) (by omega) (by omega); simp only [w1, w2, w3, w4, w5, w6, w7, w8]; done)
def c_i_SideOfRat (lA : Int) (lB : Int) (lC : Int) (xN : Int) (xD : Int) (yN : Int) (yD : Int) : Cn Try.prog := ⟨_, _, _, _, _, i_SideOfRat lA lB lC xN xD yN yD⟩
def svOK (xN xD yN yD : Int) : Bool := okR xN xD && (okR yN yD && (decide (xD / gcdI xD yD * yD ≤ 20000000) && (decide (absI xN ≤ 10000 * xD) && decide (absI yN ≤ 10000 * yD))))
theorem sv_sor {lA lB lC xN xD yN yD : Int} (h : sorOK lA lB lC xN xD yN yD = true) : okL lA lB lC = true ∧ okR xN xD = true ∧ okR yN yD = true ∧ xD / gcdI xD yD * yD ≤ 20000000 ∧ absI xN ≤ 10000 * xD ∧ absI yN ≤ 10000 * yD := by
  simpa only [sorOK, Bool.and_eq_true, decide_eq_true_eq] using h
theorem s_validSolution (xN : Int) (xD : Int) (yN : Int) (yD : Int) : RunsTo Try.prog 89 [(.agg [(.int .i64 (.v fun _ => xN) (-4000000000000000000) 4000000000000000000), (.int .i64 (.v fun _ => xD) (-4000000000000000000) 4000000000000000000), (.int .i64 (.v fun _ => yN) (-4000000000000000000) 4000000000000000000), (.int .i64 (.v fun _ => yD) (-4000000000000000000) 4000000000000000000)])] [] (.bool (.v fun _ => svOK xN xD yN yD)) [] := by
  refine RunsTo.go env Try.func89 rfl Try.call89 rfl rfl (fun _ _ => (.call (c_s_validRat xN xD) (.ite .ret (.call (c_s_validRat yN yD) (.ite .ret (.call (c_s_gcd xD yD) (.need (.ite (.call (c_s_abs xN) (.ite (.call (c_s_abs yN) .ret) .ret)) .ret)))))))) (G := (((-4000000000000000000) ≤ xN ∧ xN ≤ 4000000000000000000) ∧ (((-4000000000000000000) ≤ xD ∧ xD ≤ 4000000000000000000) ∧ (((-4000000000000000000) ≤ yN ∧ yN ≤ 4000000000000000000) ∧ ((-4000000000000000000) ≤ yD ∧ yD ≤ 4000000000000000000)))) → (True) → (((xN = xN) ∧ (xD = xD)) ∧ ((((okR xN xD) = false) → ((svOK xN xD yN yD) = false)) ∧ (((okR xN xD) = true) → (((yN = yN) ∧ (yD = yD)) ∧ ((((okR yN yD) = false) → ((svOK xN xD yN yD) = false)) ∧ (((okR yN yD) = true) → ((((xD = xD) ∧ (((-4000000000000000000) ≤ xD ∧ xD ≤ 4000000000000000000) → (0 ≤ xD ∧ xD ≤ 4000000000000000000))) ∧ ((yD = yD) ∧ (((-4000000000000000000) ≤ yD ∧ yD ≤ 4000000000000000000) → (0 ≤ yD ∧ yD ≤ 4000000000000000000)))) ∧ (((gcdI xD yD) ≠ 0) ∧ ((((IntKind.i64.wrap ((Int.tdiv xD (gcdI xD yD)) * yD)) ≤ 20000000) → ((xN = xN) ∧ ((((absI xN) ≤ (IntKind.i64.wrap (10000 * xD))) → ((yN = yN) ∧ (((absI yN) ≤ (IntKind.i64.wrap (10000 * yD))) ↔ ((svOK xN xD yN yD) = true)))) ∧ (((IntKind.i64.wrap (10000 * xD)) < (absI xN)) → ((svOK xN xD yN yD) = false))))) ∧ ((20000000 < (IntKind.i64.wrap ((Int.tdiv xD (gcdI xD yD)) * yD))) → ((svOK xN xD yN yD) = false)))))))))))) (by kernel_rfl) ?_
  intro h1 h2
  refine ⟨⟨rfl, rfl⟩, ?_, ?_⟩
  · intro c1
    simp_all [svOK]; done
  · intro c2
    refine ⟨⟨rfl, rfl⟩, ?_, ?_⟩
    · intro c3
      simp_all [svOK]; done
    · intro c4
      refine ⟨?_, ?_, ?_, ?_⟩
      · refine ⟨?_, rfl, ?_⟩
        · refine ⟨rfl, ?_⟩
          intro c5
          have hx : okR xN xD = true := (by assumption); have hy : okR yN yD = true := (by assumption); obtain ⟨g1, g2, g3, g4, g5, g6, g7, g8, g9⟩ := sor_d hx hy; have ox := okR_bd hx; have oy := okR_bd hy; have gw := wrap_ok (x := xD / gcdI xD yD * yD) (by omega) (by omega); have gx := wrap_ok (x := xD / gcdI xD yD) (by omega) (by omega); have gy := wrap_ok (x := yD / gcdI xD yD) (by omega) (by omega); have v1 := wrap_ok (x := 10000 * xD) (by omega) (by omega); have v2 := wrap_ok (x := 10000 * yD) (by omega) (by omega); simp only [g2, g3, gw, gx, gy, v1, v2] at *; first | omega | (simp only [svOK, hx, hy, Bool.true_and, Bool.and_eq_true, Bool.and_eq_false_iff, decide_eq_true_eq, decide_eq_false_iff_not]; omega)
        · intro c6
          have hx : okR xN xD = true := (by assumption); have hy : okR yN yD = true := (by assumption); obtain ⟨g1, g2, g3, g4, g5, g6, g7, g8, g9⟩ := sor_d hx hy; have ox := okR_bd hx; have oy := okR_bd hy; have gw := wrap_ok (x := xD / gcdI xD yD * yD) (by omega) (by omega); have gx := wrap_ok (x := xD / gcdI xD yD) (by omega) (by omega); have gy := wrap_ok (x := yD / gcdI xD yD) (by omega) (by omega); have v1 := wrap_ok (x := 10000 * xD) (by omega) (by omega); have v2 := wrap_ok (x := 10000 * yD) (by omega) (by omega); simp only [g2, g3, gw, gx, gy, v1, v2] at *; first | omega | (simp only [svOK, hx, hy, Bool.true_and, Bool.and_eq_true, Bool.and_eq_false_iff, decide_eq_true_eq, decide_eq_false_iff_not]; omega)
      · have hx : okR xN xD = true := (by assumption); have hy : okR yN yD = true := (by assumption); obtain ⟨g1, g2, g3, g4, g5, g6, g7, g8, g9⟩ := sor_d hx hy; have ox := okR_bd hx; have oy := okR_bd hy; have gw := wrap_ok (x := xD / gcdI xD yD * yD) (by omega) (by omega); have gx := wrap_ok (x := xD / gcdI xD yD) (by omega) (by omega); have gy := wrap_ok (x := yD / gcdI xD yD) (by omega) (by omega); have v1 := wrap_ok (x := 10000 * xD) (by omega) (by omega); have v2 := wrap_ok (x := 10000 * yD) (by omega) (by omega); simp only [g2, g3, gw, gx, gy, v1, v2] at *; first | omega | (simp only [svOK, hx, hy, Bool.true_and, Bool.and_eq_true, Bool.and_eq_false_iff, decide_eq_true_eq, decide_eq_false_iff_not]; omega)
      · intro c7
        refine ⟨rfl, ?_, ?_⟩
        · intro c8
          refine ⟨rfl, ?_⟩
          have hx : okR xN xD = true := (by assumption); have hy : okR yN yD = true := (by assumption); obtain ⟨g1, g2, g3, g4, g5, g6, g7, g8, g9⟩ := sor_d hx hy; have ox := okR_bd hx; have oy := okR_bd hy; have gw := wrap_ok (x := xD / gcdI xD yD * yD) (by omega) (by omega); have gx := wrap_ok (x := xD / gcdI xD yD) (by omega) (by omega); have gy := wrap_ok (x := yD / gcdI xD yD) (by omega) (by omega); have v1 := wrap_ok (x := 10000 * xD) (by omega) (by omega); have v2 := wrap_ok (x := 10000 * yD) (by omega) (by omega); simp only [g2, g3, gw, gx, gy, v1, v2] at *; first | omega | (simp only [svOK, hx, hy, Bool.true_and, Bool.and_eq_true, Bool.and_eq_false_iff, decide_eq_true_eq, decide_eq_false_iff_not]; omega)
        · intro c9
          have hx : okR xN xD = true := (by assumption); have hy : okR yN yD = true := (by assumption); obtain ⟨g1, g2, g3, g4, g5, g6, g7, g8, g9⟩ := sor_d hx hy; have ox := okR_bd hx; have oy := okR_bd hy; have gw := wrap_ok (x := xD / gcdI xD yD * yD) (by omega) (by omega); have gx := wrap_ok (x := xD / gcdI xD yD) (by omega) (by omega); have gy := wrap_ok (x := yD / gcdI xD yD) (by omega) (by omega); have v1 := wrap_ok (x := 10000 * xD) (by omega) (by omega); have v2 := wrap_ok (x := 10000 * yD) (by omega) (by omega); simp only [g2, g3, gw, gx, gy, v1, v2] at *; first | omega | (simp only [svOK, hx, hy, Bool.true_and, Bool.and_eq_true, Bool.and_eq_false_iff, decide_eq_true_eq, decide_eq_false_iff_not]; omega)
      · intro c10
        have hx : okR xN xD = true := (by assumption); have hy : okR yN yD = true := (by assumption); obtain ⟨g1, g2, g3, g4, g5, g6, g7, g8, g9⟩ := sor_d hx hy; have ox := okR_bd hx; have oy := okR_bd hy; have gw := wrap_ok (x := xD / gcdI xD yD * yD) (by omega) (by omega); have gx := wrap_ok (x := xD / gcdI xD yD) (by omega) (by omega); have gy := wrap_ok (x := yD / gcdI xD yD) (by omega) (by omega); have v1 := wrap_ok (x := 10000 * xD) (by omega) (by omega); have v2 := wrap_ok (x := 10000 * yD) (by omega) (by omega); simp only [g2, g3, gw, gx, gy, v1, v2] at *; first | omega | (simp only [svOK, hx, hy, Bool.true_and, Bool.and_eq_true, Bool.and_eq_false_iff, decide_eq_true_eq, decide_eq_false_iff_not]; omega)
def c_s_validSolution (xN : Int) (xD : Int) (yN : Int) (yD : Int) : Cn Try.prog := ⟨_, _, _, _, _, s_validSolution xN xD yN yD⟩
theorem s_sideOfRat (lA : Int) (lB : Int) (lC : Int) (xN : Int) (xD : Int) (yN : Int) (yD : Int) (hp : sorOK lA lB lC xN xD yN yD = true) : RunsTo Try.prog 90 [(.int .i64 (.v fun _ => lA) (-4000000000000000000) 4000000000000000000), (.int .i64 (.v fun _ => lB) (-4000000000000000000) 4000000000000000000), (.int .i64 (.v fun _ => lC) (-4000000000000000000) 4000000000000000000), (.agg [(.int .i64 (.v fun _ => xN) (-4000000000000000000) 4000000000000000000), (.int .i64 (.v fun _ => xD) (-4000000000000000000) 4000000000000000000), (.int .i64 (.v fun _ => yN) (-4000000000000000000) 4000000000000000000), (.int .i64 (.v fun _ => yD) (-4000000000000000000) 4000000000000000000)])] [] (.int .i64 (.v fun _ => sgn (lA * (xN * (yD / gcdI xD yD)) + lB * (yN * (xD / gcdI xD yD)) - lC * (xD / gcdI xD yD * yD))) (-1) 1) [] := by
  refine RunsTo.go env Try.func90 rfl Try.call90 rfl rfl (fun _ _ => (.call (c_s_gcd xD yD) (.need (.need (.need (.call (c_s_sign (IntKind.i64.wrap ((IntKind.i64.wrap ((IntKind.i64.wrap (lA * (IntKind.i64.wrap (xN * (Int.tdiv yD (gcdI xD yD)))))) + (IntKind.i64.wrap (lB * (IntKind.i64.wrap (yN * (Int.tdiv xD (gcdI xD yD)))))))) - (IntKind.i64.wrap ((IntKind.i64.wrap (lC * (Int.tdiv xD (gcdI xD yD)))) * yD))))) .ret)))))) (G := (((-4000000000000000000) ≤ lA ∧ lA ≤ 4000000000000000000) ∧ (((-4000000000000000000) ≤ lB ∧ lB ≤ 4000000000000000000) ∧ (((-4000000000000000000) ≤ lC ∧ lC ≤ 4000000000000000000) ∧ (((-4000000000000000000) ≤ xN ∧ xN ≤ 4000000000000000000) ∧ (((-4000000000000000000) ≤ xD ∧ xD ≤ 4000000000000000000) ∧ (((-4000000000000000000) ≤ yN ∧ yN ≤ 4000000000000000000) ∧ ((-4000000000000000000) ≤ yD ∧ yD ≤ 4000000000000000000))))))) → (True) → ((((xD = xD) ∧ (((-4000000000000000000) ≤ xD ∧ xD ≤ 4000000000000000000) → (0 ≤ xD ∧ xD ≤ 4000000000000000000))) ∧ ((yD = yD) ∧ (((-4000000000000000000) ≤ yD ∧ yD ≤ 4000000000000000000) → (0 ≤ yD ∧ yD ≤ 4000000000000000000)))) ∧ (((gcdI xD yD) ≠ 0) ∧ (((gcdI xD yD) ≠ 0) ∧ (((gcdI xD yD) ≠ 0) ∧ (((IntKind.i64.wrap ((IntKind.i64.wrap ((IntKind.i64.wrap (lA * (IntKind.i64.wrap (xN * (Int.tdiv yD (gcdI xD yD)))))) + (IntKind.i64.wrap (lB * (IntKind.i64.wrap (yN * (Int.tdiv xD (gcdI xD yD)))))))) - (IntKind.i64.wrap ((IntKind.i64.wrap (lC * (Int.tdiv xD (gcdI xD yD)))) * yD)))) = ((IntKind.i64.wrap ((IntKind.i64.wrap ((IntKind.i64.wrap (lA * (IntKind.i64.wrap (xN * (Int.tdiv yD (gcdI xD yD)))))) + (IntKind.i64.wrap (lB * (IntKind.i64.wrap (yN * (Int.tdiv xD (gcdI xD yD)))))))) - (IntKind.i64.wrap ((IntKind.i64.wrap (lC * (Int.tdiv xD (gcdI xD yD)))) * yD)))))) ∧ ((sgn (IntKind.i64.wrap ((IntKind.i64.wrap ((IntKind.i64.wrap (lA * (IntKind.i64.wrap (xN * (Int.tdiv yD (gcdI xD yD)))))) + (IntKind.i64.wrap (lB * (IntKind.i64.wrap (yN * (Int.tdiv xD (gcdI xD yD)))))))) - (IntKind.i64.wrap ((IntKind.i64.wrap (lC * (Int.tdiv xD (gcdI xD yD)))) * yD))))) = (sgn (lA * (xN * (yD / gcdI xD yD)) + lB * (yN * (xD / gcdI xD yD)) - lC * (xD / gcdI xD yD * yD)))))))))) (by kernel_rfl) ?_
  intro h1 h2
  have hs := sv_sor hp
  obtain ⟨g1, g2, g3, g4, g5, g6, g7, g8, g9⟩ := sor_d hs.2.1 hs.2.2.1
  have ox := okR_bd hs.2.1
  have oy := okR_bd hs.2.2.1
  have ol := okL_bd hs.1
  obtain ⟨w1, w2, w3, w4, w5, w6, w7, w8⟩ := sor_w2 hs.1 hs.2.1 hs.2.2.1 hs.2.2.2.1 hs.2.2.2.2.1 hs.2.2.2.2.2
  obtain ⟨y0, y1, y2, y3, y4, y5, y6, y7, y8⟩ := sor_w hs.1 hs.2.1 hs.2.2.1 hs.2.2.2.1 hs.2.2.2.2.1 hs.2.2.2.2.2
  have b1 := mul_bd lC (xD / gcdI xD yD) 4000000 20000000 (by omega) (by omega) (by omega) (by omega)
  have x1 := wrap_ok (x := xD / gcdI xD yD) (by omega) (by omega)
  have x2 := wrap_ok (x := yD / gcdI xD yD) (by omega) (by omega)
  have x3 := wrap_ok (x := xN * (yD / gcdI xD yD)) (by omega) (by omega)
  have x4 := wrap_ok (x := yN * (xD / gcdI xD yD)) (by omega) (by omega)
  have x5 := wrap_ok (x := lA * (xN * (yD / gcdI xD yD))) (by omega) (by omega)
  have x6 := wrap_ok (x := lB * (yN * (xD / gcdI xD yD))) (by omega) (by omega)
  have x7 := wrap_ok (x := lC * (xD / gcdI xD yD)) (by omega) (by omega)
  have x8 : IntKind.i64.wrap (lC * (xD / gcdI xD yD) * yD) = lC * (xD / gcdI xD yD * yD) := by rw [y8]; exact wrap_ok (by omega) (by omega)
  refine ⟨?_, ?_, ?_, ?_, rfl, ?_⟩
  · refine ⟨?_, rfl, ?_⟩
    · refine ⟨rfl, ?_⟩
      intro c1
      omega
    · intro c2
      omega
  · omega
  · omega
  · omega
  · simp only [g2, g3, x1, x2, x3, x4, x5, x6, x7, x8, w6, w7]; done
def c_s_sideOfRat (lA : Int) (lB : Int) (lC : Int) (xN : Int) (xD : Int) (yN : Int) (yD : Int) : CnH Try.prog := ⟨_, _, _, _, _, _, s_sideOfRat lA lB lC xN xD yN yD⟩
theorem s_SideOfRat (lA : Int) (lB : Int) (lC : Int) (xN : Int) (xD : Int) (yN : Int) (yD : Int) : RunsTo Try.prog 32 [(.agg [(.int .i64 (.v fun _ => lA) (-20000000) 20000000), (.int .i64 (.v fun _ => lB) (-20000000) 20000000), (.int .i64 (.v fun _ => lC) (-20000000) 20000000)]), (.agg [(.int .i64 (.v fun _ => xN) (-4000000000000000000) 4000000000000000000), (.int .i64 (.v fun _ => xD) (-4000000000000000000) 4000000000000000000), (.int .i64 (.v fun _ => yN) (-4000000000000000000) 4000000000000000000), (.int .i64 (.v fun _ => yD) (-4000000000000000000) 4000000000000000000)])] [] (.int .i64 (.v fun _ => sorL lA lB lC xN xD yN yD) (-1) 2) [] := by
  refine RunsTo.go env Try.func32 rfl Try.call32 rfl rfl (fun _ _ => (.call (c_s_validLine lA lB lC) (.ite .ret (.call (c_s_validSolution xN xD yN yD) (.ite .ret (.callH (c_s_sideOfRat lA lB lC xN xD yN yD) .ret)))))) (G := ((((-20000000) ≤ lA ∧ lA ≤ 20000000) ∧ (((-20000000) ≤ lB ∧ lB ≤ 20000000) ∧ ((-20000000) ≤ lC ∧ lC ≤ 20000000))) ∧ (((-4000000000000000000) ≤ xN ∧ xN ≤ 4000000000000000000) ∧ (((-4000000000000000000) ≤ xD ∧ xD ≤ 4000000000000000000) ∧ (((-4000000000000000000) ≤ yN ∧ yN ≤ 4000000000000000000) ∧ ((-4000000000000000000) ≤ yD ∧ yD ≤ 4000000000000000000))))) → (True) → (((lA = lA) ∧ ((lB = lB) ∧ (lC = lC))) ∧ ((((okL lA lB lC) = false) → ((2 : Int) = (sorL lA lB lC xN xD yN yD))) ∧ (((okL lA lB lC) = true) → (((xN = xN) ∧ ((xD = xD) ∧ ((yN = yN) ∧ (yD = yD)))) ∧ ((((svOK xN xD yN yD) = false) → ((2 : Int) = (sorL lA lB lC xN xD yN yD))) ∧ (((svOK xN xD yN yD) = true) → ((sorOK lA lB lC xN xD yN yD = true) ∧ (((lA = lA) ∧ ((lB = lB) ∧ ((lC = lC) ∧ ((xN = xN) ∧ ((xD = xD) ∧ ((yN = yN) ∧ (yD = yD))))))) ∧ ((sgn (lA * (xN * (yD / gcdI xD yD)) + lB * (yN * (xD / gcdI xD yD)) - lC * (xD / gcdI xD yD * yD))) = (sorL lA lB lC xN xD yN yD))))))))))) (by kernel_rfl) ?_
  intro h1 h2
  refine ⟨⟨rfl, ⟨rfl, rfl⟩⟩, ?_, ?_⟩
  · intro c1
    simp only [sorL, show sorOK lA lB lC xN xD yN yD = (okL lA lB lC && svOK xN xD yN yD) from rfl]; simp [*]; done
  · intro c2
    refine ⟨⟨rfl, ⟨rfl, ⟨rfl, rfl⟩⟩⟩, ?_, ?_⟩
    · intro c3
      simp only [sorL, show sorOK lA lB lC xN xD yN yD = (okL lA lB lC && svOK xN xD yN yD) from rfl]; simp [*]; done
    · intro c4
      refine ⟨?_, ⟨rfl, ⟨rfl, ⟨rfl, ⟨rfl, ⟨rfl, ⟨rfl, rfl⟩⟩⟩⟩⟩⟩, ?_⟩
      · simp only [sorL, show sorOK lA lB lC xN xD yN yD = (okL lA lB lC && svOK xN xD yN yD) from rfl]; simp [*]; done
      · simp only [sorL, show sorOK lA lB lC xN xD yN yD = (okL lA lB lC && svOK xN xD yN yD) from rfl]; simp [*]; done
def c_s_SideOfRat (lA : Int) (lB : Int) (lC : Int) (xN : Int) (xD : Int) (yN : Int) (yD : Int) : Cn Try.prog := ⟨_, _, _, _, _, s_SideOfRat lA lB lC xN xD yN yD⟩
end Go.Proofs.Ytoielngedkbmbaa
