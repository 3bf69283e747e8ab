/- FnInTriangle: the walk. -/
import Derived.Test.YtnombddkojljdaaK95
set_option linter.unusedSimpArgs false
set_option linter.unusedVariables false
set_option maxRecDepth 100000
namespace Go.Proofs.Ytnombddkojljdaa
open Go.Sym
theorem trn_rot (ax ay bx bY cx cy : Int) : trn bx bY cx cy ax ay = trn ax ay bx bY cx cy := by unfold trn; grind
theorem trn_swap (ax ay bx bY cx cy : Int) : trn bx bY ax ay cx cy = -trn ax ay bx bY cx cy := by unfold trn; grind
theorem trn_aab (ax ay bx bY : Int) : trn ax ay bx bY ax ay = 0 := by unfold trn; simp
theorem trn_abb (ax ay bx bY : Int) : trn ax ay bx bY bx bY = 0 := by unfold trn; grind
theorem sgn_neg (n : Int) : sgn (-n) = -sgn n := by unfold sgn; split <;> (try split) <;> (try split) <;> (try split) <;> omega
theorem sgn_sq (n : Int) : 0 ≤ sgn n * n := by unfold sgn; split <;> (try split) <;> omega
theorem tri_rot (ax ay bx bY cx cy px py : Int) : inT bx bY cx cy ax ay px py = inT ax ay bx bY cx cy px py := by
  unfold inT
  rw [trn_rot]
  split
  · generalize onB ax ay bx bY px py = a
    generalize onB cx cy ax ay px py = b
    generalize onB bx bY cx cy px py = c
    cases a <;> cases b <;> cases c <;> rfl
  · generalize decide (0 ≤ sgn (trn ax ay bx bY cx cy) * trn ax ay bx bY px py) = a
    generalize decide (0 ≤ sgn (trn ax ay bx bY cx cy) * trn cx cy ax ay px py) = b
    generalize decide (0 ≤ sgn (trn ax ay bx bY cx cy) * trn bx bY cx cy px py) = c
    cases a <;> cases b <;> cases c <;> rfl
theorem tri_swap (ax ay bx bY cx cy px py : Int) : inT bx bY ax ay cx cy px py = inT ax ay bx bY cx cy px py := by
  unfold inT
  rw [trn_swap]
  by_cases h : trn ax ay bx bY cx cy = 0
  · rw [if_pos (by omega), if_pos h, onB_comm bx bY ax ay, onB_comm ax ay cx cy, onB_comm cx cy bx bY]
    generalize onB ax ay bx bY px py = a
    generalize onB cx cy ax ay px py = b
    generalize onB bx bY cx cy px py = c
    cases a <;> cases b <;> cases c <;> rfl
  · rw [if_neg (by omega), if_neg h, sgn_neg]
    have e1 : trn bx bY ax ay px py = -trn ax ay bx bY px py := trn_swap _ _ _ _ _ _
    have e2 : trn ax ay cx cy px py = -trn cx cy ax ay px py := trn_swap _ _ _ _ _ _
    have e3 : trn cx cy bx bY px py = -trn bx bY cx cy px py := trn_swap _ _ _ _ _ _
    rw [e1, e2, e3, Int.neg_mul_neg, Int.neg_mul_neg, Int.neg_mul_neg]
    generalize decide (0 ≤ sgn (trn ax ay bx bY cx cy) * trn ax ay bx bY px py) = a
    generalize decide (0 ≤ sgn (trn ax ay bx bY cx cy) * trn cx cy ax ay px py) = b
    generalize decide (0 ≤ sgn (trn ax ay bx bY cx cy) * trn bx bY cx cy px py) = c
    cases a <;> cases b <;> cases c <;> rfl
theorem tri_a (ax ay bx bY cx cy : Int) : inT ax ay bx bY cx cy ax ay = true := by
  unfold inT
  split
  · rw [onB_left]; rfl
  · rw [trn_aab, trn_rot ax ay bx bY cx cy, trn_abb]
    have := sgn_sq (trn ax ay bx bY cx cy)
    simp [this]
theorem tri_b (ax ay bx bY cx cy : Int) : inT ax ay bx bY cx cy bx bY = true := by
  rw [← tri_rot]; exact tri_a _ _ _ _ _ _
theorem tri_plain {ax ay bx bY cx cy : Int} (px py : Int) (h1 : okP ax ay = true) (h2 : okP bx bY = true) (h3 : okP cx cy = true) :
    inTri bx bY cx cy ax ay px py = inTri ax ay bx bY cx cy px py ∧ inTri bx bY ax ay cx cy px py = inTri ax ay bx bY cx cy px py ∧ inTri ax ay bx bY cx cy ax ay = true ∧ inTri ax ay bx bY cx cy bx bY = true := by
  unfold inTri
  rw [tri_rot, tri_swap, tri_a, tri_b]
  simp [h1, h2, h3]

def q3 (C : Int → Int) (n : Int) : Int := apP C (cut n) (q2 C n)
def tS (C : Int → Int) (n : Int) : Int := pk C (cut n) (q3 C n) 6
def tcX (C : Int → Int) (n : Int) : Int := if tS C n = 0 then apX C (cut n) 0 else if tS C n = 1 then 2 * apX C (cut n) (q1 C n) - apX C (cut n) 0 else apX C (cut n) (q2 C n)
def tcY (C : Int → Int) (n : Int) : Int := if tS C n = 0 then apY C (cut n) 0 else if tS C n = 1 then 2 * apY C (cut n) (q1 C n) - apY C (cut n) 0 else apY C (cut n) (q2 C n)
def tqX (C : Int → Int) (n : Int) : Int := if pk C (cut n) (q3 C n + 1) 3 = 0 then Int.tdiv (apX C (cut n) 0 + apX C (cut n) (q1 C n)) 2 else apX C (cut n) (q3 C n + 1 + 1)
def tqY (C : Int → Int) (n : Int) : Int := if pk C (cut n) (q3 C n + 1) 3 = 0 then Int.tdiv (apY C (cut n) 0 + apY C (cut n) (q1 C n)) 2 else apY C (cut n) (q3 C n + 1 + 1)
theorem s_DrawInTriangle (C : Int → Int) (n : Int) : RunsTo Try.prog 11 [(.sl 0 1 (.lit 0) (.v fun _ => n) 9223372036854775807)] [some ⟨5, 1, false, (.sym (.v fun _ => n) fun e => [(.int .u8 (.v fun _ => (C (e.den))) 0 255)])⟩] (.tup [(.agg [(.int .i64 (.v fun _ => apX C (cut n) 0) (-1001) 1001), (.int .i64 (.v fun _ => apY C (cut n) 0) (-1001) 1001)]), (.agg [(.int .i64 (.v fun _ => apX C (cut n) (q1 C n)) (-1001) 1001), (.int .i64 (.v fun _ => apY C (cut n) (q1 C n)) (-1001) 1001)]), (.agg [(.int .i64 (.v fun _ => tcX C n) (-3003) 3003), (.int .i64 (.v fun _ => tcY C n) (-3003) 3003)]), (.agg [(.int .i64 (.v fun _ => tqX C n) (-3003) 3003), (.int .i64 (.v fun _ => tqY C n) (-3003) 3003)])]) [some ⟨5, 1, false, (.sym (.v fun _ => cut n) fun e => [(.int .u8 (.v fun _ => (C (e.den))) 0 255)])⟩] := by
  refine RunsTo.go env Try.func11 rfl Try.call11 rfl rfl (fun _ _ => (.call (c_s_newReader C n) (.call (c_anyPoint C (cut n) 0) (.call (c_anyPoint C (cut n) (apP C (cut n) 0)) (.call (c_anyPoint C (cut n) (apP C (cut n) (apP C (cut n) 0))) (.call (c_pick_6 C (cut n) (apP C (cut n) (apP C (cut n) (apP C (cut n) 0)))) (.ite (.call (c_pick_3 C (cut n) ((apP C (cut n) (apP C (cut n) (apP C (cut n) 0))) + 1)) (.ite .ret (.call (c_anyPoint C (cut n) (((apP C (cut n) (apP C (cut n) (apP C (cut n) 0))) + 1) + 1)) .ret))) (.ite (.call (c_pick_3 C (cut n) ((apP C (cut n) (apP C (cut n) (apP C (cut n) 0))) + 1)) (.ite .ret (.call (c_anyPoint C (cut n) (((apP C (cut n) (apP C (cut n) (apP C (cut n) 0))) + 1) + 1)) .ret))) (.call (c_pick_3 C (cut n) ((apP C (cut n) (apP C (cut n) (apP C (cut n) 0))) + 1)) (.ite .ret (.call (c_anyPoint C (cut n) (((apP C (cut n) (apP C (cut n) (apP C (cut n) 0))) + 1) + 1)) .ret))))))))))) (G := (0 ≤ n ∧ n ≤ 9223372036854775807) → (∀ e18 : E, ((0 ≤ e18.den ∧ e18.den < n) → (0 ≤ ((C (e18.den))) ∧ ((C (e18.den))) ≤ 255))) → ((n = n) ∧ (((n ≤ n) ∧ (∀ e1 : E, ((0 ≤ e1.den ∧ e1.den < n) → (((C (e1.den))) = ((C (e1.den))))))) ∧ (((((cut n) = (cut n)) ∧ ((0 : Int) = 0)) ∧ (((cut n) ≤ (cut n)) ∧ (∀ e2 : E, ((0 ≤ e2.den ∧ e2.den < (cut n)) → (((C (e2.den))) = ((C (e2.den)))))))) ∧ (((((cut n) = (cut n)) ∧ (((apP C (cut n) 0) = (apP C (cut n) 0)) ∧ ((0 ≤ (apP C (cut n) 0) ∧ (apP C (cut n) 0) ≤ 9999904) → (0 ≤ (apP C (cut n) 0) ∧ (apP C (cut n) 0) ≤ 9999900)))) ∧ (((cut n) ≤ (cut n)) ∧ (∀ e3 : E, ((0 ≤ e3.den ∧ e3.den < (cut n)) → (((C (e3.den))) = ((C (e3.den)))))))) ∧ (((((cut n) = (cut n)) ∧ (((apP C (cut n) (apP C (cut n) 0)) = (apP C (cut n) (apP C (cut n) 0))) ∧ ((0 ≤ (apP C (cut n) (apP C (cut n) 0)) ∧ (apP C (cut n) (apP C (cut n) 0)) ≤ 9999904) → (0 ≤ (apP C (cut n) (apP C (cut n) 0)) ∧ (apP C (cut n) (apP C (cut n) 0)) ≤ 9999900)))) ∧ (((cut n) ≤ (cut n)) ∧ (∀ e4 : E, ((0 ≤ e4.den ∧ e4.den < (cut n)) → (((C (e4.den))) = ((C (e4.den)))))))) ∧ (((((cut n) = (cut n)) ∧ ((apP C (cut n) (apP C (cut n) (apP C (cut n) 0))) = ((apP C (cut n) (apP C (cut n) (apP C (cut n) 0)))))) ∧ (((cut n) ≤ (cut n)) ∧ (∀ e5 : E, ((0 ≤ e5.den ∧ e5.den < (cut n)) → (((C (e5.den))) = ((C (e5.den)))))))) ∧ ((((pk C (cut n) (apP C (cut n) (apP C (cut n) (apP C (cut n) 0))) 6) = 0) → (((((cut n) = (cut n)) ∧ ((((apP C (cut n) (apP C (cut n) (apP C (cut n) 0))) + 1) = (((apP C (cut n) (apP C (cut n) (apP C (cut n) 0))) + 1))) ∧ ((0 ≤ ((apP C (cut n) (apP C (cut n) (apP C (cut n) 0))) + 1) ∧ ((apP C (cut n) (apP C (cut n) (apP C (cut n) 0))) + 1) ≤ 10000001) → (0 ≤ (((apP C (cut n) (apP C (cut n) (apP C (cut n) 0))) + 1)) ∧ (((apP C (cut n) (apP C (cut n) (apP C (cut n) 0))) + 1)) ≤ 10000000)))) ∧ (((cut n) ≤ (cut n)) ∧ (∀ e6 : E, ((0 ≤ e6.den ∧ e6.den < (cut n)) → (((C (e6.den))) = ((C (e6.den)))))))) ∧ ((((pk C (cut n) ((apP C (cut n) (apP C (cut n) (apP C (cut n) 0))) + 1) 3) = 0) → (((((apX C (cut n) 0) = (apX C (cut n) 0)) ∧ ((apY C (cut n) 0) = (apY C (cut n) 0))) ∧ ((((apX C (cut n) (apP C (cut n) 0)) = (apX C (cut n) (q1 C n))) ∧ ((apY C (cut n) (apP C (cut n) 0)) = (apY C (cut n) (q1 C n)))) ∧ ((((apX C (cut n) 0) = (tcX C n)) ∧ ((apY C (cut n) 0) = (tcY C n))) ∧ (((Int.tdiv ((apX C (cut n) 0) + (apX C (cut n) (apP C (cut n) 0))) 2) = (tqX C n)) ∧ ((Int.tdiv ((apY C (cut n) 0) + (apY C (cut n) (apP C (cut n) 0))) 2) = (tqY C n)))))) ∧ (((cut n) ≤ (cut n)) ∧ (∀ e7 : E, ((0 ≤ e7.den ∧ e7.den < (cut n)) → (((C (e7.den))) = ((C (e7.den))))))))) ∧ (((pk C (cut n) ((apP C (cut n) (apP C (cut n) (apP C (cut n) 0))) + 1) 3) ≠ 0) → (((((cut n) = (cut n)) ∧ (((((apP C (cut n) (apP C (cut n) (apP C (cut n) 0))) + 1) + 1) = ((((apP C (cut n) (apP C (cut n) (apP C (cut n) 0))) + 1) + 1))) ∧ ((0 ≤ (((apP C (cut n) (apP C (cut n) (apP C (cut n) 0))) + 1) + 1) ∧ (((apP C (cut n) (apP C (cut n) (apP C (cut n) 0))) + 1) + 1) ≤ 10000001) → (0 ≤ ((((apP C (cut n) (apP C (cut n) (apP C (cut n) 0))) + 1) + 1)) ∧ ((((apP C (cut n) (apP C (cut n) (apP C (cut n) 0))) + 1) + 1)) ≤ 9999900)))) ∧ (((cut n) ≤ (cut n)) ∧ (∀ e8 : E, ((0 ≤ e8.den ∧ e8.den < (cut n)) → (((C (e8.den))) = ((C (e8.den)))))))) ∧ (((((apX C (cut n) 0) = (apX C (cut n) 0)) ∧ ((apY C (cut n) 0) = (apY C (cut n) 0))) ∧ ((((apX C (cut n) (apP C (cut n) 0)) = (apX C (cut n) (q1 C n))) ∧ ((apY C (cut n) (apP C (cut n) 0)) = (apY C (cut n) (q1 C n)))) ∧ ((((apX C (cut n) 0) = (tcX C n)) ∧ ((apY C (cut n) 0) = (tcY C n))) ∧ (((apX C (cut n) (((apP C (cut n) (apP C (cut n) (apP C (cut n) 0))) + 1) + 1)) = (tqX C n)) ∧ ((apY C (cut n) (((apP C (cut n) (apP C (cut n) (apP C (cut n) 0))) + 1) + 1)) = (tqY C n)))))) ∧ (((cut n) ≤ (cut n)) ∧ (∀ e9 : E, ((0 ≤ e9.den ∧ e9.den < (cut n)) → (((C (e9.den))) = ((C (e9.den))))))))))))) ∧ (((pk C (cut n) (apP C (cut n) (apP C (cut n) (apP C (cut n) 0))) 6) ≠ 0) → ((((pk C (cut n) (apP C (cut n) (apP C (cut n) (apP C (cut n) 0))) 6) = 1) → (((((cut n) = (cut n)) ∧ ((((apP C (cut n) (apP C (cut n) (apP C (cut n) 0))) + 1) = (((apP C (cut n) (apP C (cut n) (apP C (cut n) 0))) + 1))) ∧ ((0 ≤ ((apP C (cut n) (apP C (cut n) (apP C (cut n) 0))) + 1) ∧ ((apP C (cut n) (apP C (cut n) (apP C (cut n) 0))) + 1) ≤ 10000001) → (0 ≤ (((apP C (cut n) (apP C (cut n) (apP C (cut n) 0))) + 1)) ∧ (((apP C (cut n) (apP C (cut n) (apP C (cut n) 0))) + 1)) ≤ 10000000)))) ∧ (((cut n) ≤ (cut n)) ∧ (∀ e10 : E, ((0 ≤ e10.den ∧ e10.den < (cut n)) → (((C (e10.den))) = ((C (e10.den)))))))) ∧ ((((pk C (cut n) ((apP C (cut n) (apP C (cut n) (apP C (cut n) 0))) + 1) 3) = 0) → (((((apX C (cut n) 0) = (apX C (cut n) 0)) ∧ ((apY C (cut n) 0) = (apY C (cut n) 0))) ∧ ((((apX C (cut n) (apP C (cut n) 0)) = (apX C (cut n) (q1 C n))) ∧ ((apY C (cut n) (apP C (cut n) 0)) = (apY C (cut n) (q1 C n)))) ∧ (((((2 * (apX C (cut n) (apP C (cut n) 0))) - (apX C (cut n) 0)) = (tcX C n)) ∧ (((2 * (apY C (cut n) (apP C (cut n) 0))) - (apY C (cut n) 0)) = (tcY C n))) ∧ (((Int.tdiv ((apX C (cut n) 0) + (apX C (cut n) (apP C (cut n) 0))) 2) = (tqX C n)) ∧ ((Int.tdiv ((apY C (cut n) 0) + (apY C (cut n) (apP C (cut n) 0))) 2) = (tqY C n)))))) ∧ (((cut n) ≤ (cut n)) ∧ (∀ e11 : E, ((0 ≤ e11.den ∧ e11.den < (cut n)) → (((C (e11.den))) = ((C (e11.den))))))))) ∧ (((pk C (cut n) ((apP C (cut n) (apP C (cut n) (apP C (cut n) 0))) + 1) 3) ≠ 0) → (((((cut n) = (cut n)) ∧ (((((apP C (cut n) (apP C (cut n) (apP C (cut n) 0))) + 1) + 1) = ((((apP C (cut n) (apP C (cut n) (apP C (cut n) 0))) + 1) + 1))) ∧ ((0 ≤ (((apP C (cut n) (apP C (cut n) (apP C (cut n) 0))) + 1) + 1) ∧ (((apP C (cut n) (apP C (cut n) (apP C (cut n) 0))) + 1) + 1) ≤ 10000001) → (0 ≤ ((((apP C (cut n) (apP C (cut n) (apP C (cut n) 0))) + 1) + 1)) ∧ ((((apP C (cut n) (apP C (cut n) (apP C (cut n) 0))) + 1) + 1)) ≤ 9999900)))) ∧ (((cut n) ≤ (cut n)) ∧ (∀ e12 : E, ((0 ≤ e12.den ∧ e12.den < (cut n)) → (((C (e12.den))) = ((C (e12.den)))))))) ∧ (((((apX C (cut n) 0) = (apX C (cut n) 0)) ∧ ((apY C (cut n) 0) = (apY C (cut n) 0))) ∧ ((((apX C (cut n) (apP C (cut n) 0)) = (apX C (cut n) (q1 C n))) ∧ ((apY C (cut n) (apP C (cut n) 0)) = (apY C (cut n) (q1 C n)))) ∧ (((((2 * (apX C (cut n) (apP C (cut n) 0))) - (apX C (cut n) 0)) = (tcX C n)) ∧ (((2 * (apY C (cut n) (apP C (cut n) 0))) - (apY C (cut n) 0)) = (tcY C n))) ∧ (((apX C (cut n) (((apP C (cut n) (apP C (cut n) (apP C (cut n) 0))) + 1) + 1)) = (tqX C n)) ∧ ((apY C (cut n) (((apP C (cut n) (apP C (cut n) (apP C (cut n) 0))) + 1) + 1)) = (tqY C n)))))) ∧ (((cut n) ≤ (cut n)) ∧ (∀ e13 : E, ((0 ≤ e13.den ∧ e13.den < (cut n)) → (((C (e13.den))) = ((C (e13.den))))))))))))) ∧ (((pk C (cut n) (apP C (cut n) (apP C (cut n) (apP C (cut n) 0))) 6) ≠ 1) → (((((cut n) = (cut n)) ∧ ((((apP C (cut n) (apP C (cut n) (apP C (cut n) 0))) + 1) = (((apP C (cut n) (apP C (cut n) (apP C (cut n) 0))) + 1))) ∧ ((0 ≤ ((apP C (cut n) (apP C (cut n) (apP C (cut n) 0))) + 1) ∧ ((apP C (cut n) (apP C (cut n) (apP C (cut n) 0))) + 1) ≤ 10000001) → (0 ≤ (((apP C (cut n) (apP C (cut n) (apP C (cut n) 0))) + 1)) ∧ (((apP C (cut n) (apP C (cut n) (apP C (cut n) 0))) + 1)) ≤ 10000000)))) ∧ (((cut n) ≤ (cut n)) ∧ (∀ e14 : E, ((0 ≤ e14.den ∧ e14.den < (cut n)) → (((C (e14.den))) = ((C (e14.den)))))))) ∧ ((((pk C (cut n) ((apP C (cut n) (apP C (cut n) (apP C (cut n) 0))) + 1) 3) = 0) → (((((apX C (cut n) 0) = (apX C (cut n) 0)) ∧ ((apY C (cut n) 0) = (apY C (cut n) 0))) ∧ ((((apX C (cut n) (apP C (cut n) 0)) = (apX C (cut n) (q1 C n))) ∧ ((apY C (cut n) (apP C (cut n) 0)) = (apY C (cut n) (q1 C n)))) ∧ ((((apX C (cut n) (apP C (cut n) (apP C (cut n) 0))) = (tcX C n)) ∧ ((apY C (cut n) (apP C (cut n) (apP C (cut n) 0))) = (tcY C n))) ∧ (((Int.tdiv ((apX C (cut n) 0) + (apX C (cut n) (apP C (cut n) 0))) 2) = (tqX C n)) ∧ ((Int.tdiv ((apY C (cut n) 0) + (apY C (cut n) (apP C (cut n) 0))) 2) = (tqY C n)))))) ∧ (((cut n) ≤ (cut n)) ∧ (∀ e15 : E, ((0 ≤ e15.den ∧ e15.den < (cut n)) → (((C (e15.den))) = ((C (e15.den))))))))) ∧ (((pk C (cut n) ((apP C (cut n) (apP C (cut n) (apP C (cut n) 0))) + 1) 3) ≠ 0) → (((((cut n) = (cut n)) ∧ (((((apP C (cut n) (apP C (cut n) (apP C (cut n) 0))) + 1) + 1) = ((((apP C (cut n) (apP C (cut n) (apP C (cut n) 0))) + 1) + 1))) ∧ ((0 ≤ (((apP C (cut n) (apP C (cut n) (apP C (cut n) 0))) + 1) + 1) ∧ (((apP C (cut n) (apP C (cut n) (apP C (cut n) 0))) + 1) + 1) ≤ 10000001) → (0 ≤ ((((apP C (cut n) (apP C (cut n) (apP C (cut n) 0))) + 1) + 1)) ∧ ((((apP C (cut n) (apP C (cut n) (apP C (cut n) 0))) + 1) + 1)) ≤ 9999900)))) ∧ (((cut n) ≤ (cut n)) ∧ (∀ e16 : E, ((0 ≤ e16.den ∧ e16.den < (cut n)) → (((C (e16.den))) = ((C (e16.den)))))))) ∧ (((((apX C (cut n) 0) = (apX C (cut n) 0)) ∧ ((apY C (cut n) 0) = (apY C (cut n) 0))) ∧ ((((apX C (cut n) (apP C (cut n) 0)) = (apX C (cut n) (q1 C n))) ∧ ((apY C (cut n) (apP C (cut n) 0)) = (apY C (cut n) (q1 C n)))) ∧ ((((apX C (cut n) (apP C (cut n) (apP C (cut n) 0))) = (tcX C n)) ∧ ((apY C (cut n) (apP C (cut n) (apP C (cut n) 0))) = (tcY C n))) ∧ (((apX C (cut n) (((apP C (cut n) (apP C (cut n) (apP C (cut n) 0))) + 1) + 1)) = (tqX C n)) ∧ ((apY C (cut n) (((apP C (cut n) (apP C (cut n) (apP C (cut n) 0))) + 1) + 1)) = (tqY C n)))))) ∧ (((cut n) ≤ (cut n)) ∧ (∀ e17 : E, ((0 ≤ e17.den ∧ e17.den < (cut n)) → (((C (e17.den))) = ((C (e17.den))))))))))))))))))))))) (by kernel_rfl) ?_
  intro h1 h2
  have a1 := apP_bd C (cut n) 0
  have a2 := apP_bd C (cut n) (apP C (cut n) 0)
  have a3 := apP_bd C (cut n) (apP C (cut n) (apP C (cut n) 0))
  refine ⟨rfl, ⟨Int.le_refl _, fun _ => fun _ => rfl⟩, ⟨⟨rfl, rfl⟩, ⟨Int.le_refl _, fun _ => fun _ => rfl⟩⟩, ?_, ?_, ⟨⟨rfl, rfl⟩, ⟨Int.le_refl _, fun _ => fun _ => rfl⟩⟩, ?_, ?_⟩
  · refine ⟨?_, Int.le_refl _, fun _ => fun _ => rfl⟩
    refine ⟨rfl, rfl, ?_⟩
    intro c19
    -- 1: 0 ≤ (apP C (cut n) 0) ∧ (apP C (cut n) 0) ≤ 9999900
    first | rfl | omega | (simp_all [tcX, tcY, tqX, tqY, tS, q1, q2, q3]; done) | (simp_all [tcX, tcY, tqX, tqY, tS, q1, q2, q3]; omega) | fail
  · refine ⟨?_, Int.le_refl _, fun _ => fun _ => rfl⟩
    refine ⟨rfl, rfl, ?_⟩
    intro c20
    -- 2: 0 ≤ (apP C (cut n) (apP C (cut n) 0)) ∧ (apP C (cut n) (apP C (cut n) 0)) ≤ 9999900
    first | rfl | omega | (simp_all [tcX, tcY, tqX, tqY, tS, q1, q2, q3]; done) | (simp_all [tcX, tcY, tqX, tqY, tS, q1, q2, q3]; omega) | fail
  · intro c21
    refine ⟨?_, ?_, ?_⟩
    · refine ⟨?_, Int.le_refl _, fun _ => fun _ => rfl⟩
      refine ⟨rfl, rfl, ?_⟩
      intro c22
      -- 3: 0 ≤ (((apP C (cut n) (apP C (cut n) (apP C (cut n) 0))) + 1)) ∧ (((apP C (cut n) (apP C (cut n) (apP
      first | rfl | omega | (simp_all [tcX, tcY, tqX, tqY, tS, q1, q2, q3]; done) | (simp_all [tcX, tcY, tqX, tqY, tS, q1, q2, q3]; omega) | fail
    · intro c23
      refine ⟨?_, Int.le_refl _, fun _ => fun _ => rfl⟩
      refine ⟨⟨rfl, rfl⟩, ?_, ?_, ?_, ?_⟩
      · refine ⟨?_, ?_⟩
          -- 4: (apX C (cut n) (apP C (cut n) 0)) = (apX C (cut n) (q1 C n))
        · first | rfl | omega | (simp_all [tcX, tcY, tqX, tqY, tS, q1, q2, q3]; done) | (simp_all [tcX, tcY, tqX, tqY, tS, q1, q2, q3]; omega) | fail
          -- 5: (apY C (cut n) (apP C (cut n) 0)) = (apY C (cut n) (q1 C n))
        · first | rfl | omega | (simp_all [tcX, tcY, tqX, tqY, tS, q1, q2, q3]; done) | (simp_all [tcX, tcY, tqX, tqY, tS, q1, q2, q3]; omega) | fail
      · refine ⟨?_, ?_⟩
          -- 6: (apX C (cut n) 0) = (tcX C n)
        · first | rfl | omega | (simp_all [tcX, tcY, tqX, tqY, tS, q1, q2, q3]; done) | (simp_all [tcX, tcY, tqX, tqY, tS, q1, q2, q3]; omega) | fail
          -- 7: (apY C (cut n) 0) = (tcY C n)
        · first | rfl | omega | (simp_all [tcX, tcY, tqX, tqY, tS, q1, q2, q3]; done) | (simp_all [tcX, tcY, tqX, tqY, tS, q1, q2, q3]; omega) | fail
        -- 8: (Int.tdiv ((apX C (cut n) 0) + (apX C (cut n) (apP C (cut n) 0))) 2) = (tqX C n)
      · first | rfl | omega | (simp_all [tcX, tcY, tqX, tqY, tS, q1, q2, q3]; done) | (simp_all [tcX, tcY, tqX, tqY, tS, q1, q2, q3]; omega) | fail
        -- 9: (Int.tdiv ((apY C (cut n) 0) + (apY C (cut n) (apP C (cut n) 0))) 2) = (tqY C n)
      · first | rfl | omega | (simp_all [tcX, tcY, tqX, tqY, tS, q1, q2, q3]; done) | (simp_all [tcX, tcY, tqX, tqY, tS, q1, q2, q3]; omega) | fail
    · intro c24
      refine ⟨?_, ?_, Int.le_refl _, fun _ => fun _ => rfl⟩
      · refine ⟨?_, Int.le_refl _, fun _ => fun _ => rfl⟩
        refine ⟨rfl, rfl, ?_⟩
        intro c25
        -- 10: 0 ≤ ((((apP C (cut n) (apP C (cut n) (apP C (cut n) 0))) + 1) + 1)) ∧ ((((apP C (cut n) (apP C (cut 
        first | rfl | omega | (simp_all [tcX, tcY, tqX, tqY, tS, q1, q2, q3]; done) | (simp_all [tcX, tcY, tqX, tqY, tS, q1, q2, q3]; omega) | fail
      · refine ⟨⟨rfl, rfl⟩, ?_, ?_, ?_, ?_⟩
        · refine ⟨?_, ?_⟩
            -- 11: (apX C (cut n) (apP C (cut n) 0)) = (apX C (cut n) (q1 C n))
          · first | rfl | omega | (simp_all [tcX, tcY, tqX, tqY, tS, q1, q2, q3]; done) | (simp_all [tcX, tcY, tqX, tqY, tS, q1, q2, q3]; omega) | fail
            -- 12: (apY C (cut n) (apP C (cut n) 0)) = (apY C (cut n) (q1 C n))
          · first | rfl | omega | (simp_all [tcX, tcY, tqX, tqY, tS, q1, q2, q3]; done) | (simp_all [tcX, tcY, tqX, tqY, tS, q1, q2, q3]; omega) | fail
        · refine ⟨?_, ?_⟩
            -- 13: (apX C (cut n) 0) = (tcX C n)
          · first | rfl | omega | (simp_all [tcX, tcY, tqX, tqY, tS, q1, q2, q3]; done) | (simp_all [tcX, tcY, tqX, tqY, tS, q1, q2, q3]; omega) | fail
            -- 14: (apY C (cut n) 0) = (tcY C n)
          · first | rfl | omega | (simp_all [tcX, tcY, tqX, tqY, tS, q1, q2, q3]; done) | (simp_all [tcX, tcY, tqX, tqY, tS, q1, q2, q3]; omega) | fail
          -- 15: (apX C (cut n) (((apP C (cut n) (apP C (cut n) (apP C (cut n) 0))) + 1) + 1)) = (tqX C n)
        · first | rfl | omega | (simp_all [tcX, tcY, tqX, tqY, tS, q1, q2, q3]; done) | (simp_all [tcX, tcY, tqX, tqY, tS, q1, q2, q3]; omega) | fail
          -- 16: (apY C (cut n) (((apP C (cut n) (apP C (cut n) (apP C (cut n) 0))) + 1) + 1)) = (tqY C n)
        · first | rfl | omega | (simp_all [tcX, tcY, tqX, tqY, tS, q1, q2, q3]; done) | (simp_all [tcX, tcY, tqX, tqY, tS, q1, q2, q3]; omega) | fail
  · intro c26
    refine ⟨?_, ?_⟩
    · intro c27
      refine ⟨?_, ?_, ?_⟩
      · refine ⟨?_, Int.le_refl _, fun _ => fun _ => rfl⟩
        refine ⟨rfl, rfl, ?_⟩
        intro c28
        -- 17: 0 ≤ (((apP C (cut n) (apP C (cut n) (apP C (cut n) 0))) + 1)) ∧ (((apP C (cut n) (apP C (cut n) (apP
        first | rfl | omega | (simp_all [tcX, tcY, tqX, tqY, tS, q1, q2, q3]; done) | (simp_all [tcX, tcY, tqX, tqY, tS, q1, q2, q3]; omega) | fail
      · intro c29
        refine ⟨?_, Int.le_refl _, fun _ => fun _ => rfl⟩
        refine ⟨⟨rfl, rfl⟩, ?_, ?_, ?_, ?_⟩
        · refine ⟨?_, ?_⟩
            -- 18: (apX C (cut n) (apP C (cut n) 0)) = (apX C (cut n) (q1 C n))
          · first | rfl | omega | (simp_all [tcX, tcY, tqX, tqY, tS, q1, q2, q3]; done) | (simp_all [tcX, tcY, tqX, tqY, tS, q1, q2, q3]; omega) | fail
            -- 19: (apY C (cut n) (apP C (cut n) 0)) = (apY C (cut n) (q1 C n))
          · first | rfl | omega | (simp_all [tcX, tcY, tqX, tqY, tS, q1, q2, q3]; done) | (simp_all [tcX, tcY, tqX, tqY, tS, q1, q2, q3]; omega) | fail
        · refine ⟨?_, ?_⟩
            -- 20: ((2 * (apX C (cut n) (apP C (cut n) 0))) - (apX C (cut n) 0)) = (tcX C n)
          · first | rfl | omega | (simp_all [tcX, tcY, tqX, tqY, tS, q1, q2, q3]; done) | (simp_all [tcX, tcY, tqX, tqY, tS, q1, q2, q3]; omega) | fail
            -- 21: ((2 * (apY C (cut n) (apP C (cut n) 0))) - (apY C (cut n) 0)) = (tcY C n)
          · first | rfl | omega | (simp_all [tcX, tcY, tqX, tqY, tS, q1, q2, q3]; done) | (simp_all [tcX, tcY, tqX, tqY, tS, q1, q2, q3]; omega) | fail
          -- 22: (Int.tdiv ((apX C (cut n) 0) + (apX C (cut n) (apP C (cut n) 0))) 2) = (tqX C n)
        · first | rfl | omega | (simp_all [tcX, tcY, tqX, tqY, tS, q1, q2, q3]; done) | (simp_all [tcX, tcY, tqX, tqY, tS, q1, q2, q3]; omega) | fail
          -- 23: (Int.tdiv ((apY C (cut n) 0) + (apY C (cut n) (apP C (cut n) 0))) 2) = (tqY C n)
        · first | rfl | omega | (simp_all [tcX, tcY, tqX, tqY, tS, q1, q2, q3]; done) | (simp_all [tcX, tcY, tqX, tqY, tS, q1, q2, q3]; omega) | fail
      · intro c30
        refine ⟨?_, ?_, Int.le_refl _, fun _ => fun _ => rfl⟩
        · refine ⟨?_, Int.le_refl _, fun _ => fun _ => rfl⟩
          refine ⟨rfl, rfl, ?_⟩
          intro c31
          -- 24: 0 ≤ ((((apP C (cut n) (apP C (cut n) (apP C (cut n) 0))) + 1) + 1)) ∧ ((((apP C (cut n) (apP C (cut 
          first | rfl | omega | (simp_all [tcX, tcY, tqX, tqY, tS, q1, q2, q3]; done) | (simp_all [tcX, tcY, tqX, tqY, tS, q1, q2, q3]; omega) | fail
        · refine ⟨⟨rfl, rfl⟩, ?_, ?_, ?_, ?_⟩
          · refine ⟨?_, ?_⟩
              -- 25: (apX C (cut n) (apP C (cut n) 0)) = (apX C (cut n) (q1 C n))
            · first | rfl | omega | (simp_all [tcX, tcY, tqX, tqY, tS, q1, q2, q3]; done) | (simp_all [tcX, tcY, tqX, tqY, tS, q1, q2, q3]; omega) | fail
              -- 26: (apY C (cut n) (apP C (cut n) 0)) = (apY C (cut n) (q1 C n))
            · first | rfl | omega | (simp_all [tcX, tcY, tqX, tqY, tS, q1, q2, q3]; done) | (simp_all [tcX, tcY, tqX, tqY, tS, q1, q2, q3]; omega) | fail
          · refine ⟨?_, ?_⟩
              -- 27: ((2 * (apX C (cut n) (apP C (cut n) 0))) - (apX C (cut n) 0)) = (tcX C n)
            · first | rfl | omega | (simp_all [tcX, tcY, tqX, tqY, tS, q1, q2, q3]; done) | (simp_all [tcX, tcY, tqX, tqY, tS, q1, q2, q3]; omega) | fail
              -- 28: ((2 * (apY C (cut n) (apP C (cut n) 0))) - (apY C (cut n) 0)) = (tcY C n)
            · first | rfl | omega | (simp_all [tcX, tcY, tqX, tqY, tS, q1, q2, q3]; done) | (simp_all [tcX, tcY, tqX, tqY, tS, q1, q2, q3]; omega) | fail
            -- 29: (apX C (cut n) (((apP C (cut n) (apP C (cut n) (apP C (cut n) 0))) + 1) + 1)) = (tqX C n)
          · first | rfl | omega | (simp_all [tcX, tcY, tqX, tqY, tS, q1, q2, q3]; done) | (simp_all [tcX, tcY, tqX, tqY, tS, q1, q2, q3]; omega) | fail
            -- 30: (apY C (cut n) (((apP C (cut n) (apP C (cut n) (apP C (cut n) 0))) + 1) + 1)) = (tqY C n)
          · first | rfl | omega | (simp_all [tcX, tcY, tqX, tqY, tS, q1, q2, q3]; done) | (simp_all [tcX, tcY, tqX, tqY, tS, q1, q2, q3]; omega) | fail
    · intro c32
      refine ⟨?_, ?_, ?_⟩
      · refine ⟨?_, Int.le_refl _, fun _ => fun _ => rfl⟩
        refine ⟨rfl, rfl, ?_⟩
        intro c33
        -- 31: 0 ≤ (((apP C (cut n) (apP C (cut n) (apP C (cut n) 0))) + 1)) ∧ (((apP C (cut n) (apP C (cut n) (apP
        first | rfl | omega | (simp_all [tcX, tcY, tqX, tqY, tS, q1, q2, q3]; done) | (simp_all [tcX, tcY, tqX, tqY, tS, q1, q2, q3]; omega) | fail
      · intro c34
        refine ⟨?_, Int.le_refl _, fun _ => fun _ => rfl⟩
        refine ⟨⟨rfl, rfl⟩, ?_, ?_, ?_, ?_⟩
        · refine ⟨?_, ?_⟩
            -- 32: (apX C (cut n) (apP C (cut n) 0)) = (apX C (cut n) (q1 C n))
          · first | rfl | omega | (simp_all [tcX, tcY, tqX, tqY, tS, q1, q2, q3]; done) | (simp_all [tcX, tcY, tqX, tqY, tS, q1, q2, q3]; omega) | fail
            -- 33: (apY C (cut n) (apP C (cut n) 0)) = (apY C (cut n) (q1 C n))
          · first | rfl | omega | (simp_all [tcX, tcY, tqX, tqY, tS, q1, q2, q3]; done) | (simp_all [tcX, tcY, tqX, tqY, tS, q1, q2, q3]; omega) | fail
        · refine ⟨?_, ?_⟩
            -- 34: (apX C (cut n) (apP C (cut n) (apP C (cut n) 0))) = (tcX C n)
          · first | rfl | omega | (simp_all [tcX, tcY, tqX, tqY, tS, q1, q2, q3]; done) | (simp_all [tcX, tcY, tqX, tqY, tS, q1, q2, q3]; omega) | fail
            -- 35: (apY C (cut n) (apP C (cut n) (apP C (cut n) 0))) = (tcY C n)
          · first | rfl | omega | (simp_all [tcX, tcY, tqX, tqY, tS, q1, q2, q3]; done) | (simp_all [tcX, tcY, tqX, tqY, tS, q1, q2, q3]; omega) | fail
          -- 36: (Int.tdiv ((apX C (cut n) 0) + (apX C (cut n) (apP C (cut n) 0))) 2) = (tqX C n)
        · first | rfl | omega | (simp_all [tcX, tcY, tqX, tqY, tS, q1, q2, q3]; done) | (simp_all [tcX, tcY, tqX, tqY, tS, q1, q2, q3]; omega) | fail
          -- 37: (Int.tdiv ((apY C (cut n) 0) + (apY C (cut n) (apP C (cut n) 0))) 2) = (tqY C n)
        · first | rfl | omega | (simp_all [tcX, tcY, tqX, tqY, tS, q1, q2, q3]; done) | (simp_all [tcX, tcY, tqX, tqY, tS, q1, q2, q3]; omega) | fail
      · intro c35
        refine ⟨?_, ?_, Int.le_refl _, fun _ => fun _ => rfl⟩
        · refine ⟨?_, Int.le_refl _, fun _ => fun _ => rfl⟩
          refine ⟨rfl, rfl, ?_⟩
          intro c36
          -- 38: 0 ≤ ((((apP C (cut n) (apP C (cut n) (apP C (cut n) 0))) + 1) + 1)) ∧ ((((apP C (cut n) (apP C (cut 
          first | rfl | omega | (simp_all [tcX, tcY, tqX, tqY, tS, q1, q2, q3]; done) | (simp_all [tcX, tcY, tqX, tqY, tS, q1, q2, q3]; omega) | fail
        · refine ⟨⟨rfl, rfl⟩, ?_, ?_, ?_, ?_⟩
          · refine ⟨?_, ?_⟩
              -- 39: (apX C (cut n) (apP C (cut n) 0)) = (apX C (cut n) (q1 C n))
            · first | rfl | omega | (simp_all [tcX, tcY, tqX, tqY, tS, q1, q2, q3]; done) | (simp_all [tcX, tcY, tqX, tqY, tS, q1, q2, q3]; omega) | fail
              -- 40: (apY C (cut n) (apP C (cut n) 0)) = (apY C (cut n) (q1 C n))
            · first | rfl | omega | (simp_all [tcX, tcY, tqX, tqY, tS, q1, q2, q3]; done) | (simp_all [tcX, tcY, tqX, tqY, tS, q1, q2, q3]; omega) | fail
          · refine ⟨?_, ?_⟩
              -- 41: (apX C (cut n) (apP C (cut n) (apP C (cut n) 0))) = (tcX C n)
            · first | rfl | omega | (simp_all [tcX, tcY, tqX, tqY, tS, q1, q2, q3]; done) | (simp_all [tcX, tcY, tqX, tqY, tS, q1, q2, q3]; omega) | fail
              -- 42: (apY C (cut n) (apP C (cut n) (apP C (cut n) 0))) = (tcY C n)
            · first | rfl | omega | (simp_all [tcX, tcY, tqX, tqY, tS, q1, q2, q3]; done) | (simp_all [tcX, tcY, tqX, tqY, tS, q1, q2, q3]; omega) | fail
            -- 43: (apX C (cut n) (((apP C (cut n) (apP C (cut n) (apP C (cut n) 0))) + 1) + 1)) = (tqX C n)
          · first | rfl | omega | (simp_all [tcX, tcY, tqX, tqY, tS, q1, q2, q3]; done) | (simp_all [tcX, tcY, tqX, tqY, tS, q1, q2, q3]; omega) | fail
            -- 44: (apY C (cut n) (((apP C (cut n) (apP C (cut n) (apP C (cut n) 0))) + 1) + 1)) = (tqY C n)
          · first | rfl | omega | (simp_all [tcX, tcY, tqX, tqY, tS, q1, q2, q3]; done) | (simp_all [tcX, tcY, tqX, tqY, tS, q1, q2, q3]; omega) | fail
def c_s_DrawInTriangle (C : Int → Int) (n : Int) : Cn Try.prog := ⟨_, _, _, _, _, s_DrawInTriangle C n⟩
theorem i_ValidPoint (pX : Int) (pY : Int) : RunsTo Try.prog 13 [(.agg [(.int .i64 (.v fun _ => pX) (-9223372036854775808) 9223372036854775807), (.int .i64 (.v fun _ => pY) (-9223372036854775808) 9223372036854775807)])] [] (.bool (.v fun _ => okP pX pY)) [] := by
  refine RunsTo.go env Try.func13 rfl Try.call13 rfl rfl (fun _ _ => (.call (c_i_valid pX pY) .ret)) (G := (((-9223372036854775808) ≤ pX ∧ pX ≤ 9223372036854775807) ∧ ((-9223372036854775808) ≤ pY ∧ pY ≤ 9223372036854775807)) → (True) → (((pX = pX) ∧ (pY = pY)) ∧ (((okP pX pY) = true) ↔ ((okP pX pY) = true)))) (by kernel_rfl) ?_
  intro h1 h2
  exact ⟨⟨rfl, rfl⟩, Iff.rfl⟩
def c_i_ValidPoint (pX : Int) (pY : Int) : Cn Try.prog := ⟨_, _, _, _, _, i_ValidPoint pX pY⟩
theorem l_FnInTriangle (C : Int → Int) (n : Int) : RunsTo Try.prog 4 [(.sl 0 1 (.lit 0) (.v fun _ => n) 9223372036854775807)] [some ⟨5, 1, false, (.sym (.v fun _ => n) fun e => [(.int .u8 (.v fun _ => (C (e.den))) 0 255)])⟩] (.bool (.lit true)) [none] := by
  refine RunsTo.go env Try.func4 rfl Try.call4 rfl rfl (fun _ _ => (.ite .ret (.call (c_s_DrawInTriangle C n) (.call (c_i_InTriangle (apX C (cut n) 0) (apY C (cut n) 0) (apX C (cut n) (q1 C n)) (apY C (cut n) (q1 C n)) (tcX C n) (tcY C n) (tqX C n) (tqY C n)) (.call (c_s_InTriangle (apX C (cut n) 0) (apY C (cut n) 0) (apX C (cut n) (q1 C n)) (apY C (cut n) (q1 C n)) (tcX C n) (tcY C n) (tqX C n) (tqY C n)) (.ite (.call (c_s_InTriangle (apX C (cut n) 0) (apY C (cut n) 0) (apX C (cut n) (q1 C n)) (apY C (cut n) (q1 C n)) (tcX C n) (tcY C n) (tqX C n) (tqY C n)) .ret) (.call (c_i_ValidPoint (apX C (cut n) 0) (apY C (cut n) 0)) (.ite (.call (c_s_InTriangle (apX C (cut n) 0) (apY C (cut n) 0) (apX C (cut n) (q1 C n)) (apY C (cut n) (q1 C n)) (tcX C n) (tcY C n) (tqX C n) (tqY C n)) .ret) (.call (c_i_ValidPoint (apX C (cut n) (q1 C n)) (apY C (cut n) (q1 C n))) (.ite (.call (c_s_InTriangle (apX C (cut n) 0) (apY C (cut n) 0) (apX C (cut n) (q1 C n)) (apY C (cut n) (q1 C n)) (tcX C n) (tcY C n) (tqX C n) (tqY C n)) .ret) (.call (c_i_ValidPoint (tcX C n) (tcY C n)) (.ite (.call (c_s_InTriangle (apX C (cut n) 0) (apY C (cut n) 0) (apX C (cut n) (q1 C n)) (apY C (cut n) (q1 C n)) (tcX C n) (tcY C n) (tqX C n) (tqY C n)) .ret) (.call (c_i_InTriangle (apX C (cut n) (q1 C n)) (apY C (cut n) (q1 C n)) (tcX C n) (tcY C n) (apX C (cut n) 0) (apY C (cut n) 0) (tqX C n) (tqY C n)) (.ite (.call (c_i_InTriangle (apX C (cut n) (q1 C n)) (apY C (cut n) (q1 C n)) (apX C (cut n) 0) (apY C (cut n) 0) (tcX C n) (tcY C n) (tqX C n) (tqY C n)) (.ite (.call (c_i_InTriangle (apX C (cut n) 0) (apY C (cut n) 0) (apX C (cut n) (q1 C n)) (apY C (cut n) (q1 C n)) (tcX C n) (tcY C n) (apX C (cut n) 0) (apY C (cut n) 0)) (.ite (.call (c_i_InTriangle (apX C (cut n) 0) (apY C (cut n) 0) (apX C (cut n) (q1 C n)) (apY C (cut n) (q1 C n)) (tcX C n) (tcY C n) (apX C (cut n) (q1 C n)) (apY C (cut n) (q1 C n))) .ret) .ret)) .ret)) .ret)))))))))))))) (G := (0 ≤ n ∧ n ≤ 9223372036854775807) → (∀ e2 : E, ((0 ≤ e2.den ∧ e2.den < n) → (0 ≤ ((C (e2.den))) ∧ ((C (e2.den))) ≤ 255))) → ((n ≤ 1048576) → ((n = n) ∧ (((n ≤ n) ∧ (∀ e1 : E, ((0 ≤ e1.den ∧ e1.den < n) → (((C (e1.den))) = ((C (e1.den))))))) ∧ (((((apX C (cut n) 0) = (apX C (cut n) 0)) ∧ ((apY C (cut n) 0) = (apY C (cut n) 0))) ∧ ((((apX C (cut n) (q1 C n)) = (apX C (cut n) (q1 C n))) ∧ ((apY C (cut n) (q1 C n)) = (apY C (cut n) (q1 C n)))) ∧ ((((tcX C n) = (tcX C n)) ∧ ((tcY C n) = (tcY C n))) ∧ (((tqX C n) = (tqX C n)) ∧ ((tqY C n) = (tqY C n)))))) ∧ (((((apX C (cut n) 0) = (apX C (cut n) 0)) ∧ ((apY C (cut n) 0) = (apY C (cut n) 0))) ∧ ((((apX C (cut n) (q1 C n)) = (apX C (cut n) (q1 C n))) ∧ ((apY C (cut n) (q1 C n)) = (apY C (cut n) (q1 C n)))) ∧ ((((tcX C n) = (tcX C n)) ∧ ((tcY C n) = (tcY C n))) ∧ (((tqX C n) = (tqX C n)) ∧ ((tqY C n) = (tqY C n)))))) ∧ ((((((inTri (apX C (cut n) 0) (apY C (cut n) 0) (apX C (cut n) (q1 C n)) (apY C (cut n) (q1 C n)) (tcX C n) (tcY C n) (tqX C n) (tqY C n)) = true) ↔ ((inTri (apX C (cut n) 0) (apY C (cut n) 0) (apX C (cut n) (q1 C n)) (apY C (cut n) (q1 C n)) (tcX C n) (tcY C n) (tqX C n) (tqY C n)) = false))) → (((((apX C (cut n) 0) = (apX C (cut n) 0)) ∧ ((apY C (cut n) 0) = (apY C (cut n) 0))) ∧ ((((apX C (cut n) (q1 C n)) = (apX C (cut n) (q1 C n))) ∧ ((apY C (cut n) (q1 C n)) = (apY C (cut n) (q1 C n)))) ∧ ((((tcX C n) = (tcX C n)) ∧ ((tcY C n) = (tcY C n))) ∧ (((tqX C n) = (tqX C n)) ∧ ((tqY C n) = (tqY C n)))))) ∧ ((((inTri (apX C (cut n) 0) (apY C (cut n) 0) (apX C (cut n) (q1 C n)) (apY C (cut n) (q1 C n)) (tcX C n) (tcY C n) (tqX C n) (tqY C n)) = true) ↔ ((inTri (apX C (cut n) 0) (apY C (cut n) 0) (apX C (cut n) (q1 C n)) (apY C (cut n) (q1 C n)) (tcX C n) (tcY C n) (tqX C n) (tqY C n)) = true))))) ∧ (((((inTri (apX C (cut n) 0) (apY C (cut n) 0) (apX C (cut n) (q1 C n)) (apY C (cut n) (q1 C n)) (tcX C n) (tcY C n) (tqX C n) (tqY C n)) = true) ↔ ((inTri (apX C (cut n) 0) (apY C (cut n) 0) (apX C (cut n) (q1 C n)) (apY C (cut n) (q1 C n)) (tcX C n) (tcY C n) (tqX C n) (tqY C n)) = true))) → ((((apX C (cut n) 0) = (apX C (cut n) 0)) ∧ ((apY C (cut n) 0) = (apY C (cut n) 0))) ∧ ((((okP (apX C (cut n) 0) (apY C (cut n) 0)) = false) → (((((apX C (cut n) 0) = (apX C (cut n) 0)) ∧ ((apY C (cut n) 0) = (apY C (cut n) 0))) ∧ ((((apX C (cut n) (q1 C n)) = (apX C (cut n) (q1 C n))) ∧ ((apY C (cut n) (q1 C n)) = (apY C (cut n) (q1 C n)))) ∧ ((((tcX C n) = (tcX C n)) ∧ ((tcY C n) = (tcY C n))) ∧ (((tqX C n) = (tqX C n)) ∧ ((tqY C n) = (tqY C n)))))) ∧ ((((inTri (apX C (cut n) 0) (apY C (cut n) 0) (apX C (cut n) (q1 C n)) (apY C (cut n) (q1 C n)) (tcX C n) (tcY C n) (tqX C n) (tqY C n)) = true) ↔ ((inTri (apX C (cut n) 0) (apY C (cut n) 0) (apX C (cut n) (q1 C n)) (apY C (cut n) (q1 C n)) (tcX C n) (tcY C n) (tqX C n) (tqY C n)) = true))))) ∧ (((okP (apX C (cut n) 0) (apY C (cut n) 0)) = true) → ((((apX C (cut n) (q1 C n)) = (apX C (cut n) (q1 C n))) ∧ ((apY C (cut n) (q1 C n)) = (apY C (cut n) (q1 C n)))) ∧ ((((okP (apX C (cut n) (q1 C n)) (apY C (cut n) (q1 C n))) = false) → (((((apX C (cut n) 0) = (apX C (cut n) 0)) ∧ ((apY C (cut n) 0) = (apY C (cut n) 0))) ∧ ((((apX C (cut n) (q1 C n)) = (apX C (cut n) (q1 C n))) ∧ ((apY C (cut n) (q1 C n)) = (apY C (cut n) (q1 C n)))) ∧ ((((tcX C n) = (tcX C n)) ∧ ((tcY C n) = (tcY C n))) ∧ (((tqX C n) = (tqX C n)) ∧ ((tqY C n) = (tqY C n)))))) ∧ ((((inTri (apX C (cut n) 0) (apY C (cut n) 0) (apX C (cut n) (q1 C n)) (apY C (cut n) (q1 C n)) (tcX C n) (tcY C n) (tqX C n) (tqY C n)) = true) ↔ ((inTri (apX C (cut n) 0) (apY C (cut n) 0) (apX C (cut n) (q1 C n)) (apY C (cut n) (q1 C n)) (tcX C n) (tcY C n) (tqX C n) (tqY C n)) = true))))) ∧ (((okP (apX C (cut n) (q1 C n)) (apY C (cut n) (q1 C n))) = true) → ((((tcX C n) = (tcX C n)) ∧ ((tcY C n) = (tcY C n))) ∧ ((((okP (tcX C n) (tcY C n)) = false) → (((((apX C (cut n) 0) = (apX C (cut n) 0)) ∧ ((apY C (cut n) 0) = (apY C (cut n) 0))) ∧ ((((apX C (cut n) (q1 C n)) = (apX C (cut n) (q1 C n))) ∧ ((apY C (cut n) (q1 C n)) = (apY C (cut n) (q1 C n)))) ∧ ((((tcX C n) = (tcX C n)) ∧ ((tcY C n) = (tcY C n))) ∧ (((tqX C n) = (tqX C n)) ∧ ((tqY C n) = (tqY C n)))))) ∧ ((((inTri (apX C (cut n) 0) (apY C (cut n) 0) (apX C (cut n) (q1 C n)) (apY C (cut n) (q1 C n)) (tcX C n) (tcY C n) (tqX C n) (tqY C n)) = true) ↔ ((inTri (apX C (cut n) 0) (apY C (cut n) 0) (apX C (cut n) (q1 C n)) (apY C (cut n) (q1 C n)) (tcX C n) (tcY C n) (tqX C n) (tqY C n)) = true))))) ∧ (((okP (tcX C n) (tcY C n)) = true) → (((((apX C (cut n) (q1 C n)) = (apX C (cut n) (q1 C n))) ∧ ((apY C (cut n) (q1 C n)) = (apY C (cut n) (q1 C n)))) ∧ ((((tcX C n) = (tcX C n)) ∧ ((tcY C n) = (tcY C n))) ∧ ((((apX C (cut n) 0) = (apX C (cut n) 0)) ∧ ((apY C (cut n) 0) = (apY C (cut n) 0))) ∧ (((tqX C n) = (tqX C n)) ∧ ((tqY C n) = (tqY C n)))))) ∧ ((((((inTri (apX C (cut n) (q1 C n)) (apY C (cut n) (q1 C n)) (tcX C n) (tcY C n) (apX C (cut n) 0) (apY C (cut n) 0) (tqX C n) (tqY C n)) = true) ↔ ((inTri (apX C (cut n) 0) (apY C (cut n) 0) (apX C (cut n) (q1 C n)) (apY C (cut n) (q1 C n)) (tcX C n) (tcY C n) (tqX C n) (tqY C n)) = true))) → (((((apX C (cut n) (q1 C n)) = (apX C (cut n) (q1 C n))) ∧ ((apY C (cut n) (q1 C n)) = (apY C (cut n) (q1 C n)))) ∧ ((((apX C (cut n) 0) = (apX C (cut n) 0)) ∧ ((apY C (cut n) 0) = (apY C (cut n) 0))) ∧ ((((tcX C n) = (tcX C n)) ∧ ((tcY C n) = (tcY C n))) ∧ (((tqX C n) = (tqX C n)) ∧ ((tqY C n) = (tqY C n)))))) ∧ ((((((inTri (apX C (cut n) (q1 C n)) (apY C (cut n) (q1 C n)) (apX C (cut n) 0) (apY C (cut n) 0) (tcX C n) (tcY C n) (tqX C n) (tqY C n)) = true) ↔ ((inTri (apX C (cut n) 0) (apY C (cut n) 0) (apX C (cut n) (q1 C n)) (apY C (cut n) (q1 C n)) (tcX C n) (tcY C n) (tqX C n) (tqY C n)) = true))) → (((((apX C (cut n) 0) = (apX C (cut n) 0)) ∧ ((apY C (cut n) 0) = (apY C (cut n) 0))) ∧ ((((apX C (cut n) (q1 C n)) = (apX C (cut n) (q1 C n))) ∧ ((apY C (cut n) (q1 C n)) = (apY C (cut n) (q1 C n)))) ∧ ((((tcX C n) = (tcX C n)) ∧ ((tcY C n) = (tcY C n))) ∧ (((apX C (cut n) 0) = (apX C (cut n) 0)) ∧ ((apY C (cut n) 0) = (apY C (cut n) 0)))))) ∧ ((((inTri (apX C (cut n) 0) (apY C (cut n) 0) (apX C (cut n) (q1 C n)) (apY C (cut n) (q1 C n)) (tcX C n) (tcY C n) (apX C (cut n) 0) (apY C (cut n) 0)) = true) → (((((apX C (cut n) 0) = (apX C (cut n) 0)) ∧ ((apY C (cut n) 0) = (apY C (cut n) 0))) ∧ ((((apX C (cut n) (q1 C n)) = (apX C (cut n) (q1 C n))) ∧ ((apY C (cut n) (q1 C n)) = (apY C (cut n) (q1 C n)))) ∧ ((((tcX C n) = (tcX C n)) ∧ ((tcY C n) = (tcY C n))) ∧ (((apX C (cut n) (q1 C n)) = (apX C (cut n) (q1 C n))) ∧ ((apY C (cut n) (q1 C n)) = (apY C (cut n) (q1 C n))))))) ∧ ((inTri (apX C (cut n) 0) (apY C (cut n) 0) (apX C (cut n) (q1 C n)) (apY C (cut n) (q1 C n)) (tcX C n) (tcY C n) (apX C (cut n) (q1 C n)) (apY C (cut n) (q1 C n))) = true))) ∧ (((inTri (apX C (cut n) 0) (apY C (cut n) 0) (apX C (cut n) (q1 C n)) (apY C (cut n) (q1 C n)) (tcX C n) (tcY C n) (apX C (cut n) 0) (apY C (cut n) 0)) = false) → (False))))) ∧ (((((inTri (apX C (cut n) (q1 C n)) (apY C (cut n) (q1 C n)) (apX C (cut n) 0) (apY C (cut n) 0) (tcX C n) (tcY C n) (tqX C n) (tqY C n)) = true) ↔ ((inTri (apX C (cut n) 0) (apY C (cut n) 0) (apX C (cut n) (q1 C n)) (apY C (cut n) (q1 C n)) (tcX C n) (tcY C n) (tqX C n) (tqY C n)) = false))) → (False))))) ∧ (((((inTri (apX C (cut n) (q1 C n)) (apY C (cut n) (q1 C n)) (tcX C n) (tcY C n) (apX C (cut n) 0) (apY C (cut n) 0) (tqX C n) (tqY C n)) = true) ↔ ((inTri (apX C (cut n) 0) (apY C (cut n) 0) (apX C (cut n) (q1 C n)) (apY C (cut n) (q1 C n)) (tcX C n) (tcY C n) (tqX C n) (tqY C n)) = false))) → (False))))))))))))))))))))) (by kernel_rfl) ?_
  intro h1 h2
  intro c3
  refine ⟨rfl, ⟨Int.le_refl _, fun _ => fun _ => rfl⟩, ⟨⟨rfl, rfl⟩, ⟨⟨rfl, rfl⟩, ⟨⟨rfl, rfl⟩, ⟨rfl, rfl⟩⟩⟩⟩, ⟨⟨rfl, rfl⟩, ⟨⟨rfl, rfl⟩, ⟨⟨rfl, rfl⟩, ⟨rfl, rfl⟩⟩⟩⟩, ?_, ?_⟩
  · intro c4
    refine ⟨⟨⟨rfl, rfl⟩, ⟨⟨rfl, rfl⟩, ⟨⟨rfl, rfl⟩, ⟨rfl, rfl⟩⟩⟩⟩, ?_⟩
    -- 1: (((inTri (apX C (cut n) 0) (apY C (cut n) 0) (apX C (cut n) (q1 C n)) (apY C (cut n) (q1 C n)) (tcX 
    first | rfl | omega | (have hp := tri_plain (ax := apX C (cut n) 0) (ay := apY C (cut n) 0) (bx := apX C (cut n) (q1 C n)) (bY := apY C (cut n) (q1 C n)) (cx := tcX C n) (cy := tcY C n) (tqX C n) (tqY C n) (by assumption) (by assumption) (by assumption); obtain ⟨h1, h2, h3, h4⟩ := hp; first | (simp only [h1, h2, h3, h4] at *; done) | (simp_all; done)) | (simp_all; done) | fail
  · intro c5
    refine ⟨⟨rfl, rfl⟩, ?_, ?_⟩
    · intro c6
      refine ⟨⟨⟨rfl, rfl⟩, ⟨⟨rfl, rfl⟩, ⟨⟨rfl, rfl⟩, ⟨rfl, rfl⟩⟩⟩⟩, ?_⟩
      -- 2: (((inTri (apX C (cut n) 0) (apY C (cut n) 0) (apX C (cut n) (q1 C n)) (apY C (cut n) (q1 C n)) (tcX 
      first | rfl | omega | (have hp := tri_plain (ax := apX C (cut n) 0) (ay := apY C (cut n) 0) (bx := apX C (cut n) (q1 C n)) (bY := apY C (cut n) (q1 C n)) (cx := tcX C n) (cy := tcY C n) (tqX C n) (tqY C n) (by assumption) (by assumption) (by assumption); obtain ⟨h1, h2, h3, h4⟩ := hp; first | (simp only [h1, h2, h3, h4] at *; done) | (simp_all; done)) | (simp_all; done) | fail
    · intro c7
      refine ⟨⟨rfl, rfl⟩, ?_, ?_⟩
      · intro c8
        refine ⟨⟨⟨rfl, rfl⟩, ⟨⟨rfl, rfl⟩, ⟨⟨rfl, rfl⟩, ⟨rfl, rfl⟩⟩⟩⟩, ?_⟩
        -- 3: (((inTri (apX C (cut n) 0) (apY C (cut n) 0) (apX C (cut n) (q1 C n)) (apY C (cut n) (q1 C n)) (tcX 
        first | rfl | omega | (have hp := tri_plain (ax := apX C (cut n) 0) (ay := apY C (cut n) 0) (bx := apX C (cut n) (q1 C n)) (bY := apY C (cut n) (q1 C n)) (cx := tcX C n) (cy := tcY C n) (tqX C n) (tqY C n) (by assumption) (by assumption) (by assumption); obtain ⟨h1, h2, h3, h4⟩ := hp; first | (simp only [h1, h2, h3, h4] at *; done) | (simp_all; done)) | (simp_all; done) | fail
      · intro c9
        refine ⟨⟨rfl, rfl⟩, ?_, ?_⟩
        · intro c10
          refine ⟨⟨⟨rfl, rfl⟩, ⟨⟨rfl, rfl⟩, ⟨⟨rfl, rfl⟩, ⟨rfl, rfl⟩⟩⟩⟩, ?_⟩
          -- 4: (((inTri (apX C (cut n) 0) (apY C (cut n) 0) (apX C (cut n) (q1 C n)) (apY C (cut n) (q1 C n)) (tcX 
          first | rfl | omega | (have hp := tri_plain (ax := apX C (cut n) 0) (ay := apY C (cut n) 0) (bx := apX C (cut n) (q1 C n)) (bY := apY C (cut n) (q1 C n)) (cx := tcX C n) (cy := tcY C n) (tqX C n) (tqY C n) (by assumption) (by assumption) (by assumption); obtain ⟨h1, h2, h3, h4⟩ := hp; first | (simp only [h1, h2, h3, h4] at *; done) | (simp_all; done)) | (simp_all; done) | fail
        · intro c11
          refine ⟨⟨⟨rfl, rfl⟩, ⟨⟨rfl, rfl⟩, ⟨⟨rfl, rfl⟩, ⟨rfl, rfl⟩⟩⟩⟩, ?_, ?_⟩
          · intro c12
            refine ⟨⟨⟨rfl, rfl⟩, ⟨⟨rfl, rfl⟩, ⟨⟨rfl, rfl⟩, ⟨rfl, rfl⟩⟩⟩⟩, ?_, ?_⟩
            · intro c13
              refine ⟨⟨⟨rfl, rfl⟩, ⟨⟨rfl, rfl⟩, ⟨⟨rfl, rfl⟩, ⟨rfl, rfl⟩⟩⟩⟩, ?_, ?_⟩
              · intro c14
                refine ⟨⟨⟨rfl, rfl⟩, ⟨⟨rfl, rfl⟩, ⟨⟨rfl, rfl⟩, ⟨rfl, rfl⟩⟩⟩⟩, ?_⟩
                -- 5: (inTri (apX C (cut n) 0) (apY C (cut n) 0) (apX C (cut n) (q1 C n)) (apY C (cut n) (q1 C n)) (tcX C 
                first | rfl | omega | (have hp := tri_plain (ax := apX C (cut n) 0) (ay := apY C (cut n) 0) (bx := apX C (cut n) (q1 C n)) (bY := apY C (cut n) (q1 C n)) (cx := tcX C n) (cy := tcY C n) (tqX C n) (tqY C n) (by assumption) (by assumption) (by assumption); obtain ⟨h1, h2, h3, h4⟩ := hp; first | (simp only [h1, h2, h3, h4] at *; done) | (simp_all; done)) | (simp_all; done) | fail
              · intro c15
                -- 6: False
                first | rfl | omega | (have hp := tri_plain (ax := apX C (cut n) 0) (ay := apY C (cut n) 0) (bx := apX C (cut n) (q1 C n)) (bY := apY C (cut n) (q1 C n)) (cx := tcX C n) (cy := tcY C n) (tqX C n) (tqY C n) (by assumption) (by assumption) (by assumption); obtain ⟨h1, h2, h3, h4⟩ := hp; first | (simp only [h1, h2, h3, h4] at *; done) | (simp_all; done)) | (simp_all; done) | fail
            · intro c16
              -- 7: False
              first | rfl | omega | (have hp := tri_plain (ax := apX C (cut n) 0) (ay := apY C (cut n) 0) (bx := apX C (cut n) (q1 C n)) (bY := apY C (cut n) (q1 C n)) (cx := tcX C n) (cy := tcY C n) (tqX C n) (tqY C n) (by assumption) (by assumption) (by assumption); obtain ⟨h1, h2, h3, h4⟩ := hp; first | (simp only [h1, h2, h3, h4] at *; done) | (simp_all; done)) | (simp_all; done) | fail
          · intro c17
            -- 8: False
            first | rfl | omega | (have hp := tri_plain (ax := apX C (cut n) 0) (ay := apY C (cut n) 0) (bx := apX C (cut n) (q1 C n)) (bY := apY C (cut n) (q1 C n)) (cx := tcX C n) (cy := tcY C n) (tqX C n) (tqY C n) (by assumption) (by assumption) (by assumption); obtain ⟨h1, h2, h3, h4⟩ := hp; first | (simp only [h1, h2, h3, h4] at *; done) | (simp_all; done)) | (simp_all; done) | fail
def c_l_FnInTriangle (C : Int → Int) (n : Int) : Cn Try.prog := ⟨_, _, _, _, _, l_FnInTriangle C n⟩
end Go.Proofs.Ytnombddkojljdaa
