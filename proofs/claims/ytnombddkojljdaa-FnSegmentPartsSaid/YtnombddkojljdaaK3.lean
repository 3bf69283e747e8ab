/- Orientation, moved points. -/
import Derived.Test.YtnombddkojljdaaK2
import Derived.Test.YtnombddkojljdaaR3
set_option linter.unusedSimpArgs false
set_option linter.unusedVariables false
set_option maxRecDepth 100000
namespace Go.Proofs.Ytnombddkojljdaa
open Go.Sym
theorem allB2 (q : Int → Bool) : allB q 2 = (q 0 && q 1) := by simp [allB, List.range_succ]
theorem allB3 (q : Int → Bool) : allB q 3 = (q 0 && (q 1 && q 2)) := by simp [allB, List.range_succ]
def ornt (aX aY bX bY cX cY : Int) : Int := if okP aX aY && okP bX bY && okP cX cY then sgn (trn aX aY bX bY cX cY) else 2
def crss (aX aY bX bY cX cY : Int) : Int := if okP aX aY && okP bX bY && okP cX cY then trn aX aY bX bY cX cY else 0
def in9 (x y : Int) : Bool := decide (x ≤ 900) && decide (-900 ≤ x) && decide (y ≤ 900) && decide (-900 ≤ y)
theorem in9_iff {x y : Int} : in9 x y = true ↔ x ≤ 900 ∧ -900 ≤ x ∧ y ≤ 900 ∧ -900 ≤ y := by unfold in9; simp [and_assoc]
def q1 (C : Int → Int) (n : Int) : Int := apP C (cut n) 0
def q2 (C : Int → Int) (n : Int) : Int := apP C (cut n) (q1 C n)
end Go.Proofs.Ytnombddkojljdaa
