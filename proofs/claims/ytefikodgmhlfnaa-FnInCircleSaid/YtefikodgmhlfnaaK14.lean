/- Segments. -/
import Derived.Test.YtefikodgmhlfnaaK12
set_option linter.unusedSimpArgs false
set_option linter.unusedVariables false
set_option maxRecDepth 100000
namespace Go.Proofs.Ytefikodgmhlfnaa
open Go.Sym
def dotp (ax ay bx bY px py : Int) : Int := (ax - px) * (bx - px) + (ay - py) * (bY - py)
/-- A point is on a segment. -/
def onB (ax ay bx bY px py : Int) : Bool := decide (trn ax ay bx bY px py = 0) && decide (dotp ax ay bx bY px py ≤ 0)
def boxB (ax ay bx bY px py : Int) : Bool := (decide (min ax bx ≤ px) && decide (px ≤ max ax bx)) && (decide (min ay bY ≤ py) && decide (py ≤ max ay bY))
theorem ilt_or_ge (a b : Int) : a < b ∨ b ≤ a := by omega
/-- On a line, the inner product is negative exactly between both ends. -/
theorem box_iff (ax ay bx bY px py : Int) (h : trn ax ay bx bY px py = 0) : boxB ax ay bx bY px py = true ↔ dotp ax ay bx bY px py ≤ 0 := by
  have e : (ax - px) * (bY - py) = (ay - py) * (bx - px) := by unfold trn at h; grind
  unfold boxB dotp
  generalize hu : ax - px = u at e ⊢
  generalize hv : bx - px = v at e ⊢
  generalize hs : ay - py = s at e ⊢
  generalize ht : bY - py = t at e ⊢
  have hb : (decide (min ax bx ≤ px) && decide (px ≤ max ax bx) && (decide (min ay bY ≤ py) && decide (py ≤ max ay bY))) = true ↔ ((u ≤ 0 ∧ 0 ≤ v) ∨ (v ≤ 0 ∧ 0 ≤ u)) ∧ ((s ≤ 0 ∧ 0 ≤ t) ∨ (t ≤ 0 ∧ 0 ≤ s)) := by
    simp only [Bool.and_eq_true, decide_eq_true_eq]
    omega
  rw [hb]
  have k1 : ((u ≤ 0 ∧ 0 ≤ v) ∨ (v ≤ 0 ∧ 0 ≤ u)) ↔ u * v ≤ 0 := by
    constructor
    · rintro (⟨h1, h2⟩ | ⟨h1, h2⟩)
      · exact Int.mul_nonpos_of_nonpos_of_nonneg h1 h2
      · rw [Int.mul_comm]; exact Int.mul_nonpos_of_nonpos_of_nonneg h1 h2
    · intro hle
      rcases Int.lt_trichotomy u 0 with h1 | h1 | h1
      · left
        refine ⟨by omega, ?_⟩
        rcases ilt_or_ge v 0 with h2 | h2
        · have := Int.mul_pos_of_neg_of_neg h1 h2; omega
        · exact h2
      · omega
      · right
        refine ⟨?_, by omega⟩
        rcases ilt_or_ge 0 v with h2 | h2
        · have := Int.mul_pos h1 h2; omega
        · exact h2
  have k2 : ((s ≤ 0 ∧ 0 ≤ t) ∨ (t ≤ 0 ∧ 0 ≤ s)) ↔ s * t ≤ 0 := by
    constructor
    · rintro (⟨h1, h2⟩ | ⟨h1, h2⟩)
      · exact Int.mul_nonpos_of_nonpos_of_nonneg h1 h2
      · rw [Int.mul_comm]; exact Int.mul_nonpos_of_nonpos_of_nonneg h1 h2
    · intro hle
      rcases Int.lt_trichotomy s 0 with h1 | h1 | h1
      · left
        refine ⟨by omega, ?_⟩
        rcases ilt_or_ge t 0 with h2 | h2
        · have := Int.mul_pos_of_neg_of_neg h1 h2; omega
        · exact h2
      · omega
      · right
        refine ⟨?_, by omega⟩
        rcases ilt_or_ge 0 t with h2 | h2
        · have := Int.mul_pos h1 h2; omega
        · exact h2
  rw [k1, k2]
  have key : (u * v) * (s * t) = (u * t) * (u * t) := by rw [show (u * v) * (s * t) = (u * t) * (s * v) by grind, e]
  have sq : 0 ≤ (u * t) * (u * t) := by
    rcases Int.le_total 0 (u * t) with h1 | h1
    · exact Int.mul_nonneg h1 h1
    · have := Int.mul_nonneg (show 0 ≤ -(u * t) by omega) (show 0 ≤ -(u * t) by omega)
      rwa [Int.neg_mul_neg] at this
  rw [← key] at sq
  constructor
  · rintro ⟨h1, h2⟩; omega
  · intro hle
    constructor
    · rcases ilt_or_ge 0 (u * v) with h1 | h1
      · rcases ilt_or_ge (s * t) 0 with h2 | h2
        · have := Int.mul_neg_of_pos_of_neg h1 h2; omega
        · omega
      · exact h1
    · rcases ilt_or_ge 0 (s * t) with h1 | h1
      · rcases ilt_or_ge (u * v) 0 with h2 | h2
        · have := Int.mul_neg_of_neg_of_pos h2 h1; omega
        · omega
      · exact h1
theorem onB_box (ax ay bx bY px py : Int) : onB ax ay bx bY px py = (decide (trn ax ay bx bY px py = 0) && boxB ax ay bx bY px py) := by
  unfold onB
  by_cases h : trn ax ay bx bY px py = 0
  · have := box_iff ax ay bx bY px py h
    simp only [h, decide_true, Bool.true_and]
    rw [Bool.eq_iff_iff, decide_eq_true_eq]
    exact this.symm
  · simp [h]
def okS (ax ay bx bY : Int) : Bool := okP ax ay && okP bx bY && !(decide (ax = bx) && decide (ay = bY))
def onSeg (ax ay bx bY px py : Int) : Bool := okS ax ay bx bY && (okP px py && onB ax ay bx bY px py)
def sgE (C : Int → Int) (n p : Int) : Bool := decide (apX C n p = rpX C n (apP C n p)) && decide (apY C n p = rpY C n (apP C n p))
def sgX (C : Int → Int) (n p : Int) : Int := if sgE C n p && decide (0 < pk C n (apP C n p + 1 + 1) 4) then rpX C n (apP C n p) + 1 else rpX C n (apP C n p)
def sgY (C : Int → Int) (n p : Int) : Int := rpY C n (apP C n p)
def sgP (C : Int → Int) (n p : Int) : Int := if sgE C n p then apP C n p + 1 + 1 + 1 else apP C n p + 1 + 1
theorem sgP_bd (C : Int → Int) (n p : Int) : p + 5 ≤ sgP C n p ∧ sgP C n p ≤ p + 7 := by have := apP_bd C n p; unfold sgP; split <;> omega
def osX (C : Int → Int) (n : Int) : Int := if pk C (cut n) (sgP C (cut n) 0) 2 = 0 then Int.tdiv (apX C (cut n) 0 + sgX C (cut n) 0) 2 else apX C (cut n) (sgP C (cut n) 0 + 1)
def osY (C : Int → Int) (n : Int) : Int := if pk C (cut n) (sgP C (cut n) 0) 2 = 0 then Int.tdiv (apY C (cut n) 0 + sgY C (cut n) 0) 2 else apY C (cut n) (sgP C (cut n) 0 + 1)
def s1 (C : Int → Int) (n : Int) : Int := apX C (cut n) 0
def s2 (C : Int → Int) (n : Int) : Int := apY C (cut n) 0
def s3 (C : Int → Int) (n : Int) : Int := sgX C (cut n) 0
def s4 (C : Int → Int) (n : Int) : Int := sgY C (cut n) 0
end Go.Proofs.Ytefikodgmhlfnaa
