/- FnSideOf: the walk. -/
import Derived.Test.YtheehhfmdmflmaaK12
import Derived.Test.YtheehhfmdmflmaaLLineThrough
set_option linter.unusedSimpArgs false
set_option linter.unusedVariables false
set_option maxRecDepth 100000
namespace Go.Proofs.Ytheehhfmdmflmaa
open Go.Sym
def rlE (C : Int → Int) (n p : Int) : Bool := decide (rpX C n p = rpX C n (p + 1 + 1)) && decide (rpY C n p = rpY C n (p + 1 + 1))
def rlBY (C : Int → Int) (n p : Int) : Int := if rlE C n p = true then rpY C n (p + 1 + 1) + 1 else rpY C n (p + 1 + 1)
def rlA (C : Int → Int) (n p : Int) : Int := ltA (rpX C n (p + 1 + 1) - rpX C n p) (rlBY C n p - rpY C n p)
def rlB (C : Int → Int) (n p : Int) : Int := ltB (rpX C n (p + 1 + 1) - rpX C n p) (rlBY C n p - rpY C n p)
def rlC (C : Int → Int) (n p : Int) : Int := rlA C n p * rpX C n p + rlB C n p * rpY C n p
def alS (C : Int → Int) (n p : Int) : Int := pk C n (p + 1 + 1 + 1 + 1) 16
def alA (C : Int → Int) (n p : Int) : Int := if alS C n p = 0 then selL [-1, 2001] (pk C n (p + 1 + 1 + 1 + 1 + 1) 2) else if alS C n p = 1 then 2 else rlA C n p
def alB (C : Int → Int) (n p : Int) : Int := if alS C n p = 1 then 4 else rlB C n p
def alC (C : Int → Int) (n p : Int) : Int := if alS C n p = 1 then 6 else if alS C n p = 2 then selL [4000001, -4000001] (pk C n (p + 1 + 1 + 1 + 1 + 1) 2) else rlC C n p
def alP (C : Int → Int) (n p : Int) : Int := if alS C n p = 0 then p + 1 + 1 + 1 + 1 + 1 + 1 else if alS C n p = 1 then p + 1 + 1 + 1 + 1 + 1 else if alS C n p = 2 then p + 1 + 1 + 1 + 1 + 1 + 1 else p + 1 + 1 + 1 + 1 + 1
theorem alP_bd (C : Int → Int) (n p : Int) : p + 5 ≤ alP C n p ∧ alP C n p ≤ p + 6 := by unfold alP; split <;> (try split) <;> (try split) <;> omega
theorem randomLine (C : Int → Int) (n : Int) (p : Int) : RunsTo Try.prog 145 [(.ptr 0 2 (.lit 0) 0)] [some ⟨130, 2, true, (.lit [[(.sl 1 1 (.lit 0) (.v fun _ => n) 2000), (.int .i64 (.v fun _ => p) 0 9999800)]])⟩, some ⟨5, 1, false, (.sym (.v fun _ => n) fun e => [(.int .u8 (.v fun _ => (C (e.den))) 0 255)])⟩] (.agg [(.int .i64 (.v fun _ => rlA C n p) (-10000000) 10000000), (.int .i64 (.v fun _ => rlB C n p) (-10000000) 10000000), (.int .i64 (.v fun _ => rlC C n p) (-10000000) 10000000)]) [some ⟨130, 2, true, (.lit [[(.sl 1 1 (.lit 0) (.v fun _ => n) 2000), (.int .i64 (.v fun _ => p + 1 + 1 + 1 + 1) 0 9999804)]])⟩, some ⟨5, 1, false, (.sym (.v fun _ => n) fun e => [(.int .u8 (.v fun _ => (C (e.den))) 0 255)])⟩] := by
  refine RunsTo.go env Try.func145 rfl Try.call145 rfl rfl (fun _ _ => (.call (c_randomPoint C n p) (.call (c_randomPoint C n (p + 1 + 1)) (.ite (.callH (c_s_lineThrough (rpX C n p) (rpY C n p) (rpX C n (p + 1 + 1)) ((rpY C n (p + 1 + 1)) + 1)) .ret) (.callH (c_s_lineThrough (rpX C n p) (rpY C n p) (rpX C n (p + 1 + 1)) (rpY C n (p + 1 + 1))) .ret))))) (G := (True) → (((0 ≤ n ∧ n ≤ 2000) ∧ (0 ≤ p ∧ p ≤ 9999800)) ∧ (∀ e5 : E, ((0 ≤ e5.den ∧ e5.den < n) → (0 ≤ ((C (e5.den))) ∧ ((C (e5.den))) ≤ 255)))) → ((((n = n) ∧ (p = p)) ∧ ((n ≤ n) ∧ (∀ e1 : E, ((0 ≤ e1.den ∧ e1.den < n) → (((C (e1.den))) = ((C (e1.den)))))))) ∧ ((((n = n) ∧ (((p + 1 + 1) = (p + 1 + 1)) ∧ ((0 ≤ (p + 1 + 1) ∧ (p + 1 + 1) ≤ 9999902) → (0 ≤ (p + 1 + 1) ∧ (p + 1 + 1) ≤ 9999900)))) ∧ ((n ≤ n) ∧ (∀ e2 : E, ((0 ≤ e2.den ∧ e2.den < n) → (((C (e2.den))) = ((C (e2.den)))))))) ∧ ((((((rpX C n p) = (rpX C n (p + 1 + 1))) ∧ ((rpY C n p) = (rpY C n (p + 1 + 1))))) → (((rpX C n p) ≠ (rpX C n (p + 1 + 1)) ∨ (rpY C n p) ≠ ((rpY C n (p + 1 + 1)) + 1)) ∧ (((((rpX C n p) = (rpX C n p)) ∧ ((rpY C n p) = (rpY C n p))) ∧ (((rpX C n (p + 1 + 1)) = (rpX C n (p + 1 + 1))) ∧ (((rpY C n (p + 1 + 1)) + 1) = ((rpY C n (p + 1 + 1)) + 1)))) ∧ ((((ltA ((rpX C n (p + 1 + 1)) - (rpX C n p)) (((rpY C n (p + 1 + 1)) + 1) - (rpY C n p))) = (rlA C n p)) ∧ (((ltB ((rpX C n (p + 1 + 1)) - (rpX C n p)) (((rpY C n (p + 1 + 1)) + 1) - (rpY C n p))) = (rlB C n p)) ∧ ((ltA ((rpX C n (p + 1 + 1)) - (rpX C n p)) (((rpY C n (p + 1 + 1)) + 1) - (rpY C n p)) * (rpX C n p) + ltB ((rpX C n (p + 1 + 1)) - (rpX C n p)) (((rpY C n (p + 1 + 1)) + 1) - (rpY C n p)) * (rpY C n p)) = (rlC C n p)))) ∧ (((n = n) ∧ ((((p + 1 + 1) + 1 + 1) = (p + 1 + 1 + 1 + 1)) ∧ ((0 ≤ ((p + 1 + 1) + 1 + 1) ∧ ((p + 1 + 1) + 1 + 1) ≤ 9999902) → (0 ≤ (p + 1 + 1 + 1 + 1) ∧ (p + 1 + 1 + 1 + 1) ≤ 9999804)))) ∧ ((n ≤ n) ∧ (∀ e3 : E, ((0 ≤ e3.den ∧ e3.den < n) → (((C (e3.den))) = ((C (e3.den)))))))))))) ∧ (((((rpX C n p) ≠ (rpX C n (p + 1 + 1))) ∨ ((rpY C n p) ≠ (rpY C n (p + 1 + 1))))) → (((rpX C n p) ≠ (rpX C n (p + 1 + 1)) ∨ (rpY C n p) ≠ (rpY C n (p + 1 + 1))) ∧ (((((rpX C n p) = (rpX C n p)) ∧ ((rpY C n p) = (rpY C n p))) ∧ (((rpX C n (p + 1 + 1)) = (rpX C n (p + 1 + 1))) ∧ ((rpY C n (p + 1 + 1)) = (rpY C n (p + 1 + 1))))) ∧ ((((ltA ((rpX C n (p + 1 + 1)) - (rpX C n p)) ((rpY C n (p + 1 + 1)) - (rpY C n p))) = (rlA C n p)) ∧ (((ltB ((rpX C n (p + 1 + 1)) - (rpX C n p)) ((rpY C n (p + 1 + 1)) - (rpY C n p))) = (rlB C n p)) ∧ ((ltA ((rpX C n (p + 1 + 1)) - (rpX C n p)) ((rpY C n (p + 1 + 1)) - (rpY C n p)) * (rpX C n p) + ltB ((rpX C n (p + 1 + 1)) - (rpX C n p)) ((rpY C n (p + 1 + 1)) - (rpY C n p)) * (rpY C n p)) = (rlC C n p)))) ∧ (((n = n) ∧ ((((p + 1 + 1) + 1 + 1) = (p + 1 + 1 + 1 + 1)) ∧ ((0 ≤ ((p + 1 + 1) + 1 + 1) ∧ ((p + 1 + 1) + 1 + 1) ≤ 9999902) → (0 ≤ (p + 1 + 1 + 1 + 1) ∧ (p + 1 + 1 + 1 + 1) ≤ 9999804)))) ∧ ((n ≤ n) ∧ (∀ e4 : E, ((0 ≤ e4.den ∧ e4.den < n) → (((C (e4.den))) = ((C (e4.den)))))))))))))))) (by kernel_rfl) ?_
  intro h1 h2
  refine ⟨⟨⟨rfl, rfl⟩, ⟨Int.le_refl _, fun _ => fun _ => rfl⟩⟩, ?_, ?_, ?_⟩
  · refine ⟨?_, Int.le_refl _, fun _ => fun _ => rfl⟩
    refine ⟨rfl, rfl, ?_⟩
    intro c6
    -- 1: 0 ≤ (p + 1 + 1) ∧ (p + 1 + 1) ≤ 9999900
    first | rfl | omega | (have he : rlE C n p = false := (by simp only [rlE, Bool.and_eq_false_iff, decide_eq_false_iff_not]; omega); simp [rlA, rlB, rlC, rlBY, he]; done) | (simp_all [rlA, rlB, rlC, rlBY, rlE]; done) | (simp_all [rlA, rlB, rlC, rlBY, rlE]; omega)
  · intro c7
    refine ⟨?_, ⟨⟨rfl, rfl⟩, ⟨rfl, rfl⟩⟩, ?_, ?_, Int.le_refl _, fun _ => fun _ => rfl⟩
      -- 2: (rpX C n p) ≠ (rpX C n (p + 1 + 1)) ∨ (rpY C n p) ≠ ((rpY C n (p + 1 + 1)) + 1)
    · first | rfl | omega | (have he : rlE C n p = false := (by simp only [rlE, Bool.and_eq_false_iff, decide_eq_false_iff_not]; omega); simp [rlA, rlB, rlC, rlBY, he]; done) | (simp_all [rlA, rlB, rlC, rlBY, rlE]; done) | (simp_all [rlA, rlB, rlC, rlBY, rlE]; omega)
    · refine ⟨?_, ?_, ?_⟩
        -- 3: (ltA ((rpX C n (p + 1 + 1)) - (rpX C n p)) (((rpY C n (p + 1 + 1)) + 1) - (rpY C n p))) = (rlA C n p
      · first | rfl | omega | (have he : rlE C n p = false := (by simp only [rlE, Bool.and_eq_false_iff, decide_eq_false_iff_not]; omega); simp [rlA, rlB, rlC, rlBY, he]; done) | (simp_all [rlA, rlB, rlC, rlBY, rlE]; done) | (simp_all [rlA, rlB, rlC, rlBY, rlE]; omega)
        -- 4: (ltB ((rpX C n (p + 1 + 1)) - (rpX C n p)) (((rpY C n (p + 1 + 1)) + 1) - (rpY C n p))) = (rlB C n p
      · first | rfl | omega | (have he : rlE C n p = false := (by simp only [rlE, Bool.and_eq_false_iff, decide_eq_false_iff_not]; omega); simp [rlA, rlB, rlC, rlBY, he]; done) | (simp_all [rlA, rlB, rlC, rlBY, rlE]; done) | (simp_all [rlA, rlB, rlC, rlBY, rlE]; omega)
        -- 5: (ltA ((rpX C n (p + 1 + 1)) - (rpX C n p)) (((rpY C n (p + 1 + 1)) + 1) - (rpY C n p)) * (rpX C n p)
      · first | rfl | omega | (have he : rlE C n p = false := (by simp only [rlE, Bool.and_eq_false_iff, decide_eq_false_iff_not]; omega); simp [rlA, rlB, rlC, rlBY, he]; done) | (simp_all [rlA, rlB, rlC, rlBY, rlE]; done) | (simp_all [rlA, rlB, rlC, rlBY, rlE]; omega)
    · refine ⟨rfl, ?_, ?_⟩
        -- 6: ((p + 1 + 1) + 1 + 1) = (p + 1 + 1 + 1 + 1)
      · first | rfl | omega | (have he : rlE C n p = false := (by simp only [rlE, Bool.and_eq_false_iff, decide_eq_false_iff_not]; omega); simp [rlA, rlB, rlC, rlBY, he]; done) | (simp_all [rlA, rlB, rlC, rlBY, rlE]; done) | (simp_all [rlA, rlB, rlC, rlBY, rlE]; omega)
      · intro c8
        -- 7: 0 ≤ (p + 1 + 1 + 1 + 1) ∧ (p + 1 + 1 + 1 + 1) ≤ 9999804
        first | rfl | omega | (have he : rlE C n p = false := (by simp only [rlE, Bool.and_eq_false_iff, decide_eq_false_iff_not]; omega); simp [rlA, rlB, rlC, rlBY, he]; done) | (simp_all [rlA, rlB, rlC, rlBY, rlE]; done) | (simp_all [rlA, rlB, rlC, rlBY, rlE]; omega)
  · intro c9
    refine ⟨?_, ⟨⟨rfl, rfl⟩, ⟨rfl, rfl⟩⟩, ?_, ?_, Int.le_refl _, fun _ => fun _ => rfl⟩
      -- 8: (rpX C n p) ≠ (rpX C n (p + 1 + 1)) ∨ (rpY C n p) ≠ (rpY C n (p + 1 + 1))
    · first | rfl | omega | (have he : rlE C n p = false := (by simp only [rlE, Bool.and_eq_false_iff, decide_eq_false_iff_not]; omega); simp [rlA, rlB, rlC, rlBY, he]; done) | (simp_all [rlA, rlB, rlC, rlBY, rlE]; done) | (simp_all [rlA, rlB, rlC, rlBY, rlE]; omega)
    · refine ⟨?_, ?_, ?_⟩
        -- 9: (ltA ((rpX C n (p + 1 + 1)) - (rpX C n p)) ((rpY C n (p + 1 + 1)) - (rpY C n p))) = (rlA C n p)
      · first | rfl | omega | (have he : rlE C n p = false := (by simp only [rlE, Bool.and_eq_false_iff, decide_eq_false_iff_not]; omega); simp [rlA, rlB, rlC, rlBY, he]; done) | (simp_all [rlA, rlB, rlC, rlBY, rlE]; done) | (simp_all [rlA, rlB, rlC, rlBY, rlE]; omega)
        -- 10: (ltB ((rpX C n (p + 1 + 1)) - (rpX C n p)) ((rpY C n (p + 1 + 1)) - (rpY C n p))) = (rlB C n p)
      · first | rfl | omega | (have he : rlE C n p = false := (by simp only [rlE, Bool.and_eq_false_iff, decide_eq_false_iff_not]; omega); simp [rlA, rlB, rlC, rlBY, he]; done) | (simp_all [rlA, rlB, rlC, rlBY, rlE]; done) | (simp_all [rlA, rlB, rlC, rlBY, rlE]; omega)
        -- 11: (ltA ((rpX C n (p + 1 + 1)) - (rpX C n p)) ((rpY C n (p + 1 + 1)) - (rpY C n p)) * (rpX C n p) + ltB
      · first | rfl | omega | (have he : rlE C n p = false := (by simp only [rlE, Bool.and_eq_false_iff, decide_eq_false_iff_not]; omega); simp [rlA, rlB, rlC, rlBY, he]; done) | (simp_all [rlA, rlB, rlC, rlBY, rlE]; done) | (simp_all [rlA, rlB, rlC, rlBY, rlE]; omega)
    · refine ⟨rfl, ?_, ?_⟩
        -- 12: ((p + 1 + 1) + 1 + 1) = (p + 1 + 1 + 1 + 1)
      · first | rfl | omega | (have he : rlE C n p = false := (by simp only [rlE, Bool.and_eq_false_iff, decide_eq_false_iff_not]; omega); simp [rlA, rlB, rlC, rlBY, he]; done) | (simp_all [rlA, rlB, rlC, rlBY, rlE]; done) | (simp_all [rlA, rlB, rlC, rlBY, rlE]; omega)
      · intro c10
        -- 13: 0 ≤ (p + 1 + 1 + 1 + 1) ∧ (p + 1 + 1 + 1 + 1) ≤ 9999804
        first | rfl | omega | (have he : rlE C n p = false := (by simp only [rlE, Bool.and_eq_false_iff, decide_eq_false_iff_not]; omega); simp [rlA, rlB, rlC, rlBY, he]; done) | (simp_all [rlA, rlB, rlC, rlBY, rlE]; done) | (simp_all [rlA, rlB, rlC, rlBY, rlE]; omega)
def c_randomLine (C : Int → Int) (n : Int) (p : Int) : Cn Try.prog := ⟨_, _, _, _, _, randomLine C n p⟩
theorem one_2x (C : Int → Int) (n : Int) (p : Int) (L : Int → Int) : RunsTo Try.prog 98 [(.ptr 0 2 (.lit 0) 0), (.sl 1 1 (.lit 0) (.lit 2) 2)] [some ⟨130, 2, true, (.lit [[(.sl 2 1 (.lit 0) (.v fun _ => n) 2000), (.int .i64 (.v fun _ => p) 0 9999990)]])⟩, some ⟨3, 1, true, (.sym (.lit 2) fun e => [(.int .i64 (.v fun _ => (L (e.den))) (-10000000) 10000000)])⟩, some ⟨5, 1, false, (.sym (.v fun _ => n) fun e => [(.int .u8 (.v fun _ => (C (e.den))) 0 255)])⟩] (.int .i64 (.v fun _ => (L (pk C n p 2))) (-10000000) 10000000) [some ⟨130, 2, true, (.lit [[(.sl 2 1 (.lit 0) (.v fun _ => n) 2000), (.int .i64 (.v fun _ => p + 1) 0 9999991)]])⟩, some ⟨3, 1, true, (.sym (.lit 2) fun e => [(.int .i64 (.v fun _ => (L (e.den))) (-10000000) 10000000)])⟩, some ⟨5, 1, false, (.sym (.v fun _ => n) fun e => [(.int .u8 (.v fun _ => (C (e.den))) 0 255)])⟩] := by
  refine RunsTo.go env Try.func98 rfl Try.call98 rfl rfl (fun _ _ => (.callF (c_pick_2 C n p) (.need (.need .ret)))) (G := (True) → (((0 ≤ n ∧ n ≤ 2000) ∧ (0 ≤ p ∧ p ≤ 9999990)) ∧ ((∀ e5 : E, ((0 ≤ e5.den ∧ e5.den < 2) → ((-10000000) ≤ ((L (e5.den))) ∧ ((L (e5.den))) ≤ 10000000))) ∧ (∀ e4 : E, ((0 ≤ e4.den ∧ e4.den < n) → (0 ≤ ((C (e4.den))) ∧ ((C (e4.den))) ≤ 255))))) → (((0 ≤ (2 : Int) ∧ (2 : Int) ≤ 2) → (2 ≤ (2 : Int) ∧ (2 : Int) ≤ 2)) ∧ ((((n = n) ∧ (p = p)) ∧ ((n ≤ n) ∧ (∀ e1 : E, ((0 ≤ e1.den ∧ e1.den < n) → (((C (e1.den))) = ((C (e1.den)))))))) ∧ ((0 ≤ (pk C n p 2) ∧ (pk C n p 2) ≤ 1) → ((((0 ≤ (pk C n p 2)) ∧ ((pk C n p 2) < 2))) ∧ (((pk C n p 2) < 2) ∧ ((((L (pk C n p 2))) = ((L (pk C n p 2)))) ∧ (((n = n) ∧ (((p + 1) = (p + 1)) ∧ ((0 ≤ (p + 1) ∧ (p + 1) ≤ 10000001) → (0 ≤ (p + 1) ∧ (p + 1) ≤ 9999991)))) ∧ ((((2 : Int) ≤ 2) ∧ (∀ e3 : E, ((0 ≤ e3.den ∧ e3.den < 2) → (((L (e3.den))) = ((L (e3.den))))))) ∧ ((n ≤ n) ∧ (∀ e2 : E, ((0 ≤ e2.den ∧ e2.den < n) → (((C (e2.den))) = ((C (e2.den)))))))))))))))) (by kernel_rfl) ?_
  intro h1 h2
  refine ⟨?_, ⟨⟨rfl, rfl⟩, ⟨Int.le_refl _, fun _ => fun _ => rfl⟩⟩, ?_⟩
  · intro c6
    -- 1: 2 ≤ (2 : Int) ∧ (2 : Int) ≤ 2
    first | rfl | omega
  · intro c7
    refine ⟨?_, ?_, rfl, ?_, ⟨Int.le_refl _, fun _ => fun _ => rfl⟩, Int.le_refl _, fun _ => fun _ => rfl⟩
      -- 2: ((0 ≤ (pk C n p 2)) ∧ ((pk C n p 2) < 2))
    · first | rfl | omega
      -- 3: (pk C n p 2) < 2
    · first | rfl | omega
    · refine ⟨rfl, rfl, ?_⟩
      intro c8
      -- 4: 0 ≤ (p + 1) ∧ (p + 1) ≤ 9999991
      first | rfl | omega
def c_one_2x (C : Int → Int) (n : Int) (p : Int) (L : Int → Int) : Cn Try.prog := ⟨_, _, _, _, _, one_2x C n p L⟩
theorem anyLine (C : Int → Int) (n : Int) (p : Int) : RunsTo Try.prog 116 [(.ptr 0 2 (.lit 0) 0)] [some ⟨130, 2, true, (.lit [[(.sl 1 1 (.lit 0) (.v fun _ => n) 2000), (.int .i64 (.v fun _ => p) 0 9999700)]])⟩, some ⟨5, 1, false, (.sym (.v fun _ => n) fun e => [(.int .u8 (.v fun _ => (C (e.den))) 0 255)])⟩] (.agg [(.int .i64 (.v fun _ => alA C n p) (-10000000) 10000000), (.int .i64 (.v fun _ => alB C n p) (-10000000) 10000000), (.int .i64 (.v fun _ => alC C n p) (-10000000) 10000000)]) [some ⟨130, 2, true, (.lit [[(.sl 1 1 (.lit 0) (.v fun _ => n) 2000), (.int .i64 (.v fun _ => alP C n p) 0 9999710)]])⟩, some ⟨5, 1, false, (.sym (.v fun _ => n) fun e => [(.int .u8 (.v fun _ => (C (e.den))) 0 255)])⟩] := by
  refine RunsTo.go env Try.func116 rfl Try.call116 rfl rfl (fun _ _ => (.call (c_randomLine C n p) (.call (c_pick_16 C n (p + 1 + 1 + 1 + 1)) (.ite (.call (c_one_2x C n ((p + 1 + 1 + 1 + 1) + 1) (selL [(-1), 2001])) .ret) (.ite .ret (.ite (.call (c_one_2x C n ((p + 1 + 1 + 1 + 1) + 1) (selL [4000001, (-4000001)])) .ret) .ret)))))) (G := (True) → (((0 ≤ n ∧ n ≤ 2000) ∧ (0 ≤ p ∧ p ≤ 9999700)) ∧ (∀ e13 : E, ((0 ≤ e13.den ∧ e13.den < n) → (0 ≤ ((C (e13.den))) ∧ ((C (e13.den))) ≤ 255)))) → ((((n = n) ∧ (p = p)) ∧ ((n ≤ n) ∧ (∀ e1 : E, ((0 ≤ e1.den ∧ e1.den < n) → (((C (e1.den))) = ((C (e1.den)))))))) ∧ ((((n = n) ∧ ((p + 1 + 1 + 1 + 1) = (p + 1 + 1 + 1 + 1))) ∧ ((n ≤ n) ∧ (∀ e2 : E, ((0 ≤ e2.den ∧ e2.den < n) → (((C (e2.den))) = ((C (e2.den)))))))) ∧ ((((pk C n (p + 1 + 1 + 1 + 1) 16) = 0) → ((((n = n) ∧ ((((p + 1 + 1 + 1 + 1) + 1) = ((p + 1 + 1 + 1 + 1) + 1)) ∧ ((0 ≤ ((p + 1 + 1 + 1 + 1) + 1) ∧ ((p + 1 + 1 + 1 + 1) + 1) ≤ 10000001) → (0 ≤ ((p + 1 + 1 + 1 + 1) + 1) ∧ ((p + 1 + 1 + 1 + 1) + 1) ≤ 9999990)))) ∧ (((∀ e5 : E, ((e5.den = 0) → (((-1) : Int) = (selL [(-1), 2001] (e5.den))))) ∧ (∀ e4 : E, ((e4.den = 1) → ((2001 : Int) = (selL [(-1), 2001] (e4.den)))))) ∧ ((n ≤ n) ∧ (∀ e3 : E, ((0 ≤ e3.den ∧ e3.den < n) → (((C (e3.den))) = ((C (e3.den))))))))) ∧ (((((selL [(-1), 2001] (pk C n ((p + 1 + 1 + 1 + 1) + 1) 2))) = (alA C n p)) ∧ (((rlB C n p) = (alB C n p)) ∧ ((rlC C n p) = (alC C n p)))) ∧ (((n = n) ∧ (((((p + 1 + 1 + 1 + 1) + 1) + 1) = (alP C n p)) ∧ ((0 ≤ (((p + 1 + 1 + 1 + 1) + 1) + 1) ∧ (((p + 1 + 1 + 1 + 1) + 1) + 1) ≤ 9999991) → (0 ≤ (alP C n p) ∧ (alP C n p) ≤ 9999710)))) ∧ ((n ≤ n) ∧ (∀ e6 : E, ((0 ≤ e6.den ∧ e6.den < n) → (((C (e6.den))) = ((C (e6.den))))))))))) ∧ (((pk C n (p + 1 + 1 + 1 + 1) 16) ≠ 0) → ((((pk C n (p + 1 + 1 + 1 + 1) 16) = 1) → ((((2 : Int) = (alA C n p)) ∧ (((4 : Int) = (alB C n p)) ∧ ((6 : Int) = (alC C n p)))) ∧ (((n = n) ∧ ((((p + 1 + 1 + 1 + 1) + 1) = (alP C n p)) ∧ ((0 ≤ ((p + 1 + 1 + 1 + 1) + 1) ∧ ((p + 1 + 1 + 1 + 1) + 1) ≤ 10000001) → (0 ≤ (alP C n p) ∧ (alP C n p) ≤ 9999710)))) ∧ ((n ≤ n) ∧ (∀ e7 : E, ((0 ≤ e7.den ∧ e7.den < n) → (((C (e7.den))) = ((C (e7.den)))))))))) ∧ (((pk C n (p + 1 + 1 + 1 + 1) 16) ≠ 1) → ((((pk C n (p + 1 + 1 + 1 + 1) 16) = 2) → ((((n = n) ∧ ((((p + 1 + 1 + 1 + 1) + 1) = ((p + 1 + 1 + 1 + 1) + 1)) ∧ ((0 ≤ ((p + 1 + 1 + 1 + 1) + 1) ∧ ((p + 1 + 1 + 1 + 1) + 1) ≤ 10000001) → (0 ≤ ((p + 1 + 1 + 1 + 1) + 1) ∧ ((p + 1 + 1 + 1 + 1) + 1) ≤ 9999990)))) ∧ (((∀ e10 : E, ((e10.den = 0) → ((4000001 : Int) = (selL [4000001, (-4000001)] (e10.den))))) ∧ (∀ e9 : E, ((e9.den = 1) → (((-4000001) : Int) = (selL [4000001, (-4000001)] (e9.den)))))) ∧ ((n ≤ n) ∧ (∀ e8 : E, ((0 ≤ e8.den ∧ e8.den < n) → (((C (e8.den))) = ((C (e8.den))))))))) ∧ ((((rlA C n p) = (alA C n p)) ∧ (((rlB C n p) = (alB C n p)) ∧ (((selL [4000001, (-4000001)] (pk C n ((p + 1 + 1 + 1 + 1) + 1) 2))) = (alC C n p)))) ∧ (((n = n) ∧ (((((p + 1 + 1 + 1 + 1) + 1) + 1) = (alP C n p)) ∧ ((0 ≤ (((p + 1 + 1 + 1 + 1) + 1) + 1) ∧ (((p + 1 + 1 + 1 + 1) + 1) + 1) ≤ 9999991) → (0 ≤ (alP C n p) ∧ (alP C n p) ≤ 9999710)))) ∧ ((n ≤ n) ∧ (∀ e11 : E, ((0 ≤ e11.den ∧ e11.den < n) → (((C (e11.den))) = ((C (e11.den))))))))))) ∧ (((pk C n (p + 1 + 1 + 1 + 1) 16) ≠ 2) → ((((rlA C n p) = (alA C n p)) ∧ (((rlB C n p) = (alB C n p)) ∧ ((rlC C n p) = (alC C n p)))) ∧ (((n = n) ∧ ((((p + 1 + 1 + 1 + 1) + 1) = (alP C n p)) ∧ ((0 ≤ ((p + 1 + 1 + 1 + 1) + 1) ∧ ((p + 1 + 1 + 1 + 1) + 1) ≤ 10000001) → (0 ≤ (alP C n p) ∧ (alP C n p) ≤ 9999710)))) ∧ ((n ≤ n) ∧ (∀ e12 : E, ((0 ≤ e12.den ∧ e12.den < n) → (((C (e12.den))) = ((C (e12.den)))))))))))))))))) (by kernel_rfl) ?_
  intro h1 h2
  refine ⟨⟨⟨rfl, rfl⟩, ⟨Int.le_refl _, fun _ => fun _ => rfl⟩⟩, ⟨⟨rfl, rfl⟩, ⟨Int.le_refl _, fun _ => fun _ => rfl⟩⟩, ?_, ?_⟩
  · intro c14
    refine ⟨?_, ?_, ?_, Int.le_refl _, fun _ => fun _ => rfl⟩
    · refine ⟨?_, ?_, Int.le_refl _, fun _ => fun _ => rfl⟩
      · refine ⟨rfl, rfl, ?_⟩
        intro c15
        -- 1: 0 ≤ ((p + 1 + 1 + 1 + 1) + 1) ∧ ((p + 1 + 1 + 1 + 1) + 1) ≤ 9999990
        first | rfl | omega | (simp_all [selL]; done) | (simp_all [alA, alB, alC, alP, alS]; done) | (simp_all [alA, alB, alC, alP, alS]; omega)
      · refine ⟨?_, ?_⟩
        · intro e5
          intro c16
          -- 2: ((-1) : Int) = (selL [(-1), 2001] (e5.den))
          first | rfl | omega | (simp_all [selL]; done) | (simp_all [alA, alB, alC, alP, alS]; done) | (simp_all [alA, alB, alC, alP, alS]; omega)
        · intro e4
          intro c17
          -- 3: (2001 : Int) = (selL [(-1), 2001] (e4.den))
          first | rfl | omega | (simp_all [selL]; done) | (simp_all [alA, alB, alC, alP, alS]; done) | (simp_all [alA, alB, alC, alP, alS]; omega)
    · refine ⟨?_, ?_, ?_⟩
        -- 4: ((selL [(-1), 2001] (pk C n ((p + 1 + 1 + 1 + 1) + 1) 2))) = (alA C n p)
      · first | rfl | omega | (simp_all [selL]; done) | (simp_all [alA, alB, alC, alP, alS]; done) | (simp_all [alA, alB, alC, alP, alS]; omega)
        -- 5: (rlB C n p) = (alB C n p)
      · first | rfl | omega | (simp_all [selL]; done) | (simp_all [alA, alB, alC, alP, alS]; done) | (simp_all [alA, alB, alC, alP, alS]; omega)
        -- 6: (rlC C n p) = (alC C n p)
      · first | rfl | omega | (simp_all [selL]; done) | (simp_all [alA, alB, alC, alP, alS]; done) | (simp_all [alA, alB, alC, alP, alS]; omega)
    · refine ⟨rfl, ?_, ?_⟩
        -- 7: (((p + 1 + 1 + 1 + 1) + 1) + 1) = (alP C n p)
      · first | rfl | omega | (simp_all [selL]; done) | (simp_all [alA, alB, alC, alP, alS]; done) | (simp_all [alA, alB, alC, alP, alS]; omega)
      · intro c18
        -- 8: 0 ≤ (alP C n p) ∧ (alP C n p) ≤ 9999710
        first | rfl | omega | (simp_all [selL]; done) | (simp_all [alA, alB, alC, alP, alS]; done) | (simp_all [alA, alB, alC, alP, alS]; omega)
  · intro c19
    refine ⟨?_, ?_⟩
    · intro c20
      refine ⟨?_, ?_, Int.le_refl _, fun _ => fun _ => rfl⟩
      · refine ⟨?_, ?_, ?_⟩
          -- 9: (2 : Int) = (alA C n p)
        · first | rfl | omega | (simp_all [selL]; done) | (simp_all [alA, alB, alC, alP, alS]; done) | (simp_all [alA, alB, alC, alP, alS]; omega)
          -- 10: (4 : Int) = (alB C n p)
        · first | rfl | omega | (simp_all [selL]; done) | (simp_all [alA, alB, alC, alP, alS]; done) | (simp_all [alA, alB, alC, alP, alS]; omega)
          -- 11: (6 : Int) = (alC C n p)
        · first | rfl | omega | (simp_all [selL]; done) | (simp_all [alA, alB, alC, alP, alS]; done) | (simp_all [alA, alB, alC, alP, alS]; omega)
      · refine ⟨rfl, ?_, ?_⟩
          -- 12: ((p + 1 + 1 + 1 + 1) + 1) = (alP C n p)
        · first | rfl | omega | (simp_all [selL]; done) | (simp_all [alA, alB, alC, alP, alS]; done) | (simp_all [alA, alB, alC, alP, alS]; omega)
        · intro c21
          -- 13: 0 ≤ (alP C n p) ∧ (alP C n p) ≤ 9999710
          first | rfl | omega | (simp_all [selL]; done) | (simp_all [alA, alB, alC, alP, alS]; done) | (simp_all [alA, alB, alC, alP, alS]; omega)
    · intro c22
      refine ⟨?_, ?_⟩
      · intro c23
        refine ⟨?_, ?_, ?_, Int.le_refl _, fun _ => fun _ => rfl⟩
        · refine ⟨?_, ?_, Int.le_refl _, fun _ => fun _ => rfl⟩
          · refine ⟨rfl, rfl, ?_⟩
            intro c24
            -- 14: 0 ≤ ((p + 1 + 1 + 1 + 1) + 1) ∧ ((p + 1 + 1 + 1 + 1) + 1) ≤ 9999990
            first | rfl | omega | (simp_all [selL]; done) | (simp_all [alA, alB, alC, alP, alS]; done) | (simp_all [alA, alB, alC, alP, alS]; omega)
          · refine ⟨?_, ?_⟩
            · intro e10
              intro c25
              -- 15: (4000001 : Int) = (selL [4000001, (-4000001)] (e10.den))
              first | rfl | omega | (simp_all [selL]; done) | (simp_all [alA, alB, alC, alP, alS]; done) | (simp_all [alA, alB, alC, alP, alS]; omega)
            · intro e9
              intro c26
              -- 16: ((-4000001) : Int) = (selL [4000001, (-4000001)] (e9.den))
              first | rfl | omega | (simp_all [selL]; done) | (simp_all [alA, alB, alC, alP, alS]; done) | (simp_all [alA, alB, alC, alP, alS]; omega)
        · refine ⟨?_, ?_, ?_⟩
            -- 17: (rlA C n p) = (alA C n p)
          · first | rfl | omega | (simp_all [selL]; done) | (simp_all [alA, alB, alC, alP, alS]; done) | (simp_all [alA, alB, alC, alP, alS]; omega)
            -- 18: (rlB C n p) = (alB C n p)
          · first | rfl | omega | (simp_all [selL]; done) | (simp_all [alA, alB, alC, alP, alS]; done) | (simp_all [alA, alB, alC, alP, alS]; omega)
            -- 19: ((selL [4000001, (-4000001)] (pk C n ((p + 1 + 1 + 1 + 1) + 1) 2))) = (alC C n p)
          · first | rfl | omega | (simp_all [selL]; done) | (simp_all [alA, alB, alC, alP, alS]; done) | (simp_all [alA, alB, alC, alP, alS]; omega)
        · refine ⟨rfl, ?_, ?_⟩
            -- 20: (((p + 1 + 1 + 1 + 1) + 1) + 1) = (alP C n p)
          · first | rfl | omega | (simp_all [selL]; done) | (simp_all [alA, alB, alC, alP, alS]; done) | (simp_all [alA, alB, alC, alP, alS]; omega)
          · intro c27
            -- 21: 0 ≤ (alP C n p) ∧ (alP C n p) ≤ 9999710
            first | rfl | omega | (simp_all [selL]; done) | (simp_all [alA, alB, alC, alP, alS]; done) | (simp_all [alA, alB, alC, alP, alS]; omega)
      · intro c28
        refine ⟨?_, ?_, Int.le_refl _, fun _ => fun _ => rfl⟩
        · refine ⟨?_, ?_, ?_⟩
            -- 22: (rlA C n p) = (alA C n p)
          · first | rfl | omega | (simp_all [selL]; done) | (simp_all [alA, alB, alC, alP, alS]; done) | (simp_all [alA, alB, alC, alP, alS]; omega)
            -- 23: (rlB C n p) = (alB C n p)
          · first | rfl | omega | (simp_all [selL]; done) | (simp_all [alA, alB, alC, alP, alS]; done) | (simp_all [alA, alB, alC, alP, alS]; omega)
            -- 24: (rlC C n p) = (alC C n p)
          · first | rfl | omega | (simp_all [selL]; done) | (simp_all [alA, alB, alC, alP, alS]; done) | (simp_all [alA, alB, alC, alP, alS]; omega)
        · refine ⟨rfl, ?_, ?_⟩
            -- 25: ((p + 1 + 1 + 1 + 1) + 1) = (alP C n p)
          · first | rfl | omega | (simp_all [selL]; done) | (simp_all [alA, alB, alC, alP, alS]; done) | (simp_all [alA, alB, alC, alP, alS]; omega)
          · intro c29
            -- 26: 0 ≤ (alP C n p) ∧ (alP C n p) ≤ 9999710
            first | rfl | omega | (simp_all [selL]; done) | (simp_all [alA, alB, alC, alP, alS]; done) | (simp_all [alA, alB, alC, alP, alS]; omega)
def c_anyLine (C : Int → Int) (n : Int) (p : Int) : Cn Try.prog := ⟨_, _, _, _, _, anyLine C n p⟩
def k1 (C : Int → Int) (n : Int) : Int := alA C (cut n) 0
def k2 (C : Int → Int) (n : Int) : Int := alB C (cut n) 0
def k3 (C : Int → Int) (n : Int) : Int := alC C (cut n) 0
def k4 (C : Int → Int) (n : Int) : Int := apX C (cut n) (alP C (cut n) 0)
def k5 (C : Int → Int) (n : Int) : Int := apY C (cut n) (alP C (cut n) 0)
theorem s_DrawSideOf (C : Int → Int) (n : Int) : RunsTo Try.prog 56 [(.sl 0 1 (.lit 0) (.v fun _ => n) 9223372036854775807)] [some ⟨5, 1, false, (.sym (.v fun _ => n) fun e => [(.int .u8 (.v fun _ => (C (e.den))) 0 255)])⟩] (.tup [(.agg [(.int .i64 (.v fun _ => k1 C n) (-10000000) 10000000), (.int .i64 (.v fun _ => k2 C n) (-10000000) 10000000), (.int .i64 (.v fun _ => k3 C n) (-10000000) 10000000)]), (.agg [(.int .i64 (.v fun _ => k4 C n) (-1001) 1001), (.int .i64 (.v fun _ => k5 C n) (-1001) 1001)])]) [some ⟨5, 1, false, (.sym (.v fun _ => cut n) fun e => [(.int .u8 (.v fun _ => (C (e.den))) 0 255)])⟩] := by
  refine RunsTo.go env Try.func56 rfl Try.call56 rfl rfl (fun _ _ => (.call (c_s_newReader C n) (.call (c_anyLine C (cut n) 0) (.call (c_anyPoint C (cut n) (alP C (cut n) 0)) .ret)))) (G := (0 ≤ n ∧ n ≤ 9223372036854775807) → (∀ e5 : E, ((0 ≤ e5.den ∧ e5.den < n) → (0 ≤ ((C (e5.den))) ∧ ((C (e5.den))) ≤ 255))) → ((n = n) ∧ (((n ≤ n) ∧ (∀ e1 : E, ((0 ≤ e1.den ∧ e1.den < n) → (((C (e1.den))) = ((C (e1.den))))))) ∧ (((((cut n) = (cut n)) ∧ ((0 : Int) = 0)) ∧ (((cut n) ≤ (cut n)) ∧ (∀ e2 : E, ((0 ≤ e2.den ∧ e2.den < (cut n)) → (((C (e2.den))) = ((C (e2.den)))))))) ∧ (((((cut n) = (cut n)) ∧ ((alP C (cut n) 0) = (alP C (cut n) 0))) ∧ (((cut n) ≤ (cut n)) ∧ (∀ e3 : E, ((0 ≤ e3.den ∧ e3.den < (cut n)) → (((C (e3.den))) = ((C (e3.den)))))))) ∧ (((((alA C (cut n) 0) = (k1 C n)) ∧ (((alB C (cut n) 0) = (k2 C n)) ∧ ((alC C (cut n) 0) = (k3 C n)))) ∧ (((apX C (cut n) (alP C (cut n) 0)) = (k4 C n)) ∧ ((apY C (cut n) (alP C (cut n) 0)) = (k5 C n)))) ∧ (((cut n) ≤ (cut n)) ∧ (∀ e4 : E, ((0 ≤ e4.den ∧ e4.den < (cut n)) → (((C (e4.den))) = ((C (e4.den))))))))))))) (by kernel_rfl) ?_
  intro h1 h2
  have ha := alP_bd C (cut n) 0
  refine ⟨rfl, ⟨Int.le_refl _, fun _ => fun _ => rfl⟩, ⟨⟨rfl, rfl⟩, ⟨Int.le_refl _, fun _ => fun _ => rfl⟩⟩, ⟨⟨rfl, rfl⟩, ⟨Int.le_refl _, fun _ => fun _ => rfl⟩⟩, ?_, Int.le_refl _, fun _ => fun _ => rfl⟩
  refine ⟨?_, ?_, ?_⟩
  · refine ⟨?_, ?_, ?_⟩
      -- 1: (alA C (cut n) 0) = (k1 C n)
    · first | rfl | omega
      -- 2: (alB C (cut n) 0) = (k2 C n)
    · first | rfl | omega
      -- 3: (alC C (cut n) 0) = (k3 C n)
    · first | rfl | omega
    -- 4: (apX C (cut n) (alP C (cut n) 0)) = (k4 C n)
  · first | rfl | omega
    -- 5: (apY C (cut n) (alP C (cut n) 0)) = (k5 C n)
  · first | rfl | omega
def c_s_DrawSideOf (C : Int → Int) (n : Int) : Cn Try.prog := ⟨_, _, _, _, _, s_DrawSideOf C n⟩
theorem sgn_mul_pos {g x : Int} (hg : 1 ≤ g) : sgn (g * x) = sgn x := by
  unfold sgn
  rcases Int.lt_trichotomy x 0 with h | h | h
  · have : g * x < 0 := Int.mul_neg_of_pos_of_neg (by omega) h
    rw [if_pos this, if_pos h]
  · subst h; simp
  · have : 0 < g * x := Int.mul_pos (by omega) h
    rw [if_neg (by omega), if_pos (by omega), if_neg (by omega), if_pos (by omega)]
theorem sgn_neg (x : Int) : sgn (0 - x) = 0 - sgn x := by unfold sgn; split <;> (try split) <;> (try split) <;> omega
/-- Which way the line's normal points. -/
def lsg (dX dY : Int) : Int := if ltS dX dY = true then 1 else -1
theorem side_sgn {aX aY bX bY x y : Int} (h : ltOK aX aY bX bY = true) (hp : okP x y = true) :
    sideL (liA aX aY bX bY) (liB aX aY bX bY) (liC aX aY bX bY) x y = lsg (bX - aX) (bY - aY) * sgn (trn aX aY bX bY x y) := by
  have hk := (lt_law h).1.1
  have h' := h
  simp only [ltOK, Bool.and_eq_true, Bool.not_eq_true', Bool.and_eq_false_iff, decide_eq_false_iff_not] at h'
  obtain ⟨⟨ha, hb⟩, hne⟩ := h'
  have hne : aX ≠ bX ∨ aY ≠ bY := hne
  have l1 := li_ok ha hb hne
  simp only [sideL, hk, hp, Bool.and_self, if_true]
  rw [l1.2.2.1, l1.2.2.2.1, l1.2.2.2.2]
  have hg := l1.2.1
  have h1 := gcdI_right (bX - aX) (bY - aY)
  have h2 := gcdI_left (bX - aX) (bY - aY)
  unfold trn ltA ltB lsg
  generalize gcdI (bX - aX) (bY - aY) = g at *
  obtain ⟨u, hu⟩ := h1
  obtain ⟨v, hv⟩ := h2
  have hu' : (bY - aY) / g = u := by rw [hu, Int.mul_ediv_cancel_left _ (by omega)]
  have hv' : (bX - aX) / g = v := by rw [hv, Int.mul_ediv_cancel_left _ (by omega)]
  rw [hu', hv']
  have et : (bX - aX) * (y - aY) - (bY - aY) * (x - aX) = g * (v * (y - aY) - u * (x - aX)) := by rw [hu, hv]; grind
  rw [et, sgn_mul_pos hg]
  by_cases hs : ltS (bX - aX) (bY - aY) = true
  · rw [if_pos hs, if_pos hs, if_pos hs, Int.one_mul]
    congr 1; grind
  · rw [if_neg hs, if_neg hs, if_neg hs]
    rw [show u * x + -v * y - (u * aX + -v * aY) = 0 - (v * (y - aY) - u * (x - aX)) by grind, sgn_neg]; omega
theorem left_sgn {aX aY bX bY : Int} (h : ltOK aX aY bX bY = true) : sgn (trn aX aY bX bY (aX - (bY - aY)) (aY + bX - aX)) = 1 := by
  simp only [ltOK, Bool.and_eq_true, Bool.not_eq_true', Bool.and_eq_false_iff, decide_eq_false_iff_not] at h
  have hne : bX - aX ≠ 0 ∨ bY - aY ≠ 0 := by omega
  have e : trn aX aY bX bY (aX - (bY - aY)) (aY + bX - aX) = (bX - aX) * (bX - aX) + (bY - aY) * (bY - aY) := by unfold trn; grind
  rw [e]
  have hsq : ∀ z : Int, 0 ≤ z * z ∧ (z ≠ 0 → 0 < z * z) := by
    intro z
    rcases Int.lt_trichotomy z 0 with h | h | h
    · have := Int.mul_pos_of_neg_of_neg h h; exact ⟨by omega, fun _ => this⟩
    · subst h; simp
    · have := Int.mul_pos h h; exact ⟨by omega, fun _ => this⟩
  have a1 := hsq (bX - aX)
  have a2 := hsq (bY - aY)
  have : 0 < (bX - aX) * (bX - aX) + (bY - aY) * (bY - aY) := by
    rcases hne with h | h
    · have := a1.2 h; omega
    · have := a2.2 h; omega
  unfold sgn
  rw [if_neg (by omega), if_pos (by omega)]
theorem sgn_vals (x : Int) : sgn x = -1 ∨ sgn x = 0 ∨ sgn x = 1 := by unfold sgn; split <;> (try split) <;> omega
theorem lsg_vals (x y : Int) : lsg x y = -1 ∨ lsg x y = 1 := by unfold lsg; split <;> omega
theorem side_law {aX aY bX bY x y : Int} (h : ltOK aX aY bX bY = true) (hp : okP x y = true) :
    (ornt aX aY bX bY x y = 0 ↔ sideL (liA aX aY bX bY) (liB aX aY bX bY) (liC aX aY bX bY) x y = 0) ∧
    (okP (aX - (bY - aY)) (aY + bX - aX) = true → sideL (liA aX aY bX bY) (liB aX aY bX bY) (liC aX aY bX bY) x y = ornt aX aY bX bY x y * sideL (liA aX aY bX bY) (liB aX aY bX bY) (liC aX aY bX bY) (aX - (bY - aY)) (aY + bX - aX)) := by
  have h' := h
  simp only [ltOK, Bool.and_eq_true] at h'
  have eo : ornt aX aY bX bY x y = sgn (trn aX aY bX bY x y) := by simp [ornt, h'.1.1, h'.1.2, hp]
  rw [side_sgn h hp, eo]
  have hs := sgn_vals (trn aX aY bX bY x y)
  have hl := lsg_vals (bX - aX) (bY - aY)
  refine ⟨?_, fun hq => ?_⟩
  · rcases hs with hs | hs | hs <;> rcases hl with hl | hl <;> rw [hs, hl] <;> decide
  · rw [side_sgn h hq, left_sgn h]
    rcases hs with hs | hs | hs <;> rcases hl with hl | hl <;> rw [hs, hl] <;> decide
theorem i_ValidPoint (pX : Int) (pY : Int) : RunsTo Try.prog 49 [(.agg [(.int .i64 (.v fun _ => pX) (-9223372036854775808) 9223372036854775807), (.int .i64 (.v fun _ => pY) (-9223372036854775808) 9223372036854775807)])] [] (.bool (.v fun _ => okP pX pY)) [] := by
  refine RunsTo.go env Try.func49 rfl Try.call49 rfl rfl (fun _ _ => (.call (c_i_valid pX pY) .ret)) (G := (((-9223372036854775808) ≤ pX ∧ pX ≤ 9223372036854775807) ∧ ((-9223372036854775808) ≤ pY ∧ pY ≤ 9223372036854775807)) → (True) → (((pX = pX) ∧ (pY = pY)) ∧ (((okP pX pY) = true) ↔ ((okP pX pY) = true)))) (by kernel_rfl) ?_
  intro h1 h2
  exact ⟨⟨rfl, rfl⟩, Iff.rfl⟩
def c_i_ValidPoint (pX : Int) (pY : Int) : Cn Try.prog := ⟨_, _, _, _, _, i_ValidPoint pX pY⟩
theorem l_FnSideOf (C : Int → Int) (n : Int) (D : Int → Int) (m : Int) : RunsTo Try.prog 14 [(.sl 0 1 (.lit 0) (.v fun _ => n) 9223372036854775807), (.sl 1 1 (.lit 0) (.v fun _ => m) 9223372036854775807)] [some ⟨5, 1, false, (.sym (.v fun _ => n) fun e => [(.int .u8 (.v fun _ => (C (e.den))) 0 255)])⟩, some ⟨5, 1, false, (.sym (.v fun _ => m) fun e => [(.int .u8 (.v fun _ => (D (e.den))) 0 255)])⟩] (.bool (.lit true)) [none, none] := by
  refine RunsTo.go env Try.func14 rfl Try.call14 rfl rfl (fun _ _ => (.ite .ret (.ite .ret (.callF (c_s_DrawSideOf C n) (.callF (c_i_SideOf (k1 C n) (k2 C n) (k3 C n) (k4 C n) (k5 C n)) (.callF (c_s_DrawLineThrough D m) (.callF (c_i_LineThrough (pX D m) (pY D m) (rX D m) (rY D m)) (.callF (c_s_SideOf (k1 C n) (k2 C n) (k3 C n) (k4 C n) (k5 C n)) (.ite (.callF (c_s_SideOf (k1 C n) (k2 C n) (k3 C n) (k4 C n) (k5 C n)) .ret) (.call (c_i_ValidPoint (k4 C n) (k5 C n)) (.ite (.callF (c_s_SideOf (k1 C n) (k2 C n) (k3 C n) (k4 C n) (k5 C n)) .ret) (.ite (.callF (c_s_SideOf (k1 C n) (k2 C n) (k3 C n) (k4 C n) (k5 C n)) .ret) (.callF (c_i_Orient (pX D m) (pY D m) (rX D m) (rY D m) (k4 C n) (k5 C n)) (.callF (c_i_SideOf (liA (pX D m) (pY D m) (rX D m) (rY D m)) (liB (pX D m) (pY D m) (rX D m) (rY D m)) (liC (pX D m) (pY D m) (rX D m) (rY D m)) (k4 C n) (k5 C n)) (.ite (.call (c_i_ValidPoint ((pX D m) - ((rY D m) - (pY D m))) (((pY D m) + (rX D m)) - (pX D m))) (.ite .ret (.callF (c_i_SideOf (liA (pX D m) (pY D m) (rX D m) (rY D m)) (liB (pX D m) (pY D m) (rX D m) (rY D m)) (liC (pX D m) (pY D m) (rX D m) (rY D m)) ((pX D m) - ((rY D m) - (pY D m))) (((pY D m) + (rX D m)) - (pX D m))) .ret))) .ret))))))))))))))) (G := ((0 ≤ n ∧ n ≤ 9223372036854775807) ∧ (0 ≤ m ∧ m ≤ 9223372036854775807)) → ((∀ e4 : E, ((0 ≤ e4.den ∧ e4.den < n) → (0 ≤ ((C (e4.den))) ∧ ((C (e4.den))) ≤ 255))) ∧ (∀ e3 : E, ((0 ≤ e3.den ∧ e3.den < m) → (0 ≤ ((D (e3.den))) ∧ ((D (e3.den))) ≤ 255)))) → ((n ≤ 1048576) → ((m ≤ 1048576) → ((n = n) ∧ (((n ≤ n) ∧ (∀ e1 : E, ((0 ≤ e1.den ∧ e1.den < n) → (((C (e1.den))) = ((C (e1.den))))))) ∧ (((((-10000000) ≤ (k1 C n) ∧ (k1 C n) ≤ 10000000) ∧ (((-10000000) ≤ (k2 C n) ∧ (k2 C n) ≤ 10000000) ∧ ((-10000000) ≤ (k3 C n) ∧ (k3 C n) ≤ 10000000))) ∧ (((-1001) ≤ (k4 C n) ∧ (k4 C n) ≤ 1001) ∧ ((-1001) ≤ (k5 C n) ∧ (k5 C n) ≤ 1001))) → (((((k1 C n) = (k1 C n)) ∧ (((k2 C n) = (k2 C n)) ∧ ((k3 C n) = (k3 C n)))) ∧ (((k4 C n) = (k4 C n)) ∧ ((k5 C n) = (k5 C n)))) ∧ (((-1) ≤ (sideL (k1 C n) (k2 C n) (k3 C n) (k4 C n) (k5 C n)) ∧ (sideL (k1 C n) (k2 C n) (k3 C n) (k4 C n) (k5 C n)) ≤ 2) → ((m = m) ∧ (((m ≤ m) ∧ (∀ e2 : E, ((0 ≤ e2.den ∧ e2.den < m) → (((D (e2.den))) = ((D (e2.den))))))) ∧ (((((-1001) ≤ (pX D m) ∧ (pX D m) ≤ 1001) ∧ ((-1001) ≤ (pY D m) ∧ (pY D m) ≤ 1001)) ∧ (((-1001) ≤ (rX D m) ∧ (rX D m) ≤ 1001) ∧ ((-1001) ≤ (rY D m) ∧ (rY D m) ≤ 1001))) → (((((pX D m) = (pX D m)) ∧ ((pY D m) = (pY D m))) ∧ (((rX D m) = (rX D m)) ∧ ((rY D m) = (rY D m)))) ∧ ((((-10000000) ≤ (liA (pX D m) (pY D m) (rX D m) (rY D m)) ∧ (liA (pX D m) (pY D m) (rX D m) (rY D m)) ≤ 10000000) ∧ (((-10000000) ≤ (liB (pX D m) (pY D m) (rX D m) (rY D m)) ∧ (liB (pX D m) (pY D m) (rX D m) (rY D m)) ≤ 10000000) ∧ ((-10000000) ≤ (liC (pX D m) (pY D m) (rX D m) (rY D m)) ∧ (liC (pX D m) (pY D m) (rX D m) (rY D m)) ≤ 10000000))) → (((((k1 C n) = (k1 C n)) ∧ (((k2 C n) = (k2 C n)) ∧ ((k3 C n) = (k3 C n)))) ∧ (((k4 C n) = (k4 C n)) ∧ ((k5 C n) = (k5 C n)))) ∧ (((-1) ≤ (sideL (k1 C n) (k2 C n) (k3 C n) (k4 C n) (k5 C n)) ∧ (sideL (k1 C n) (k2 C n) (k3 C n) (k4 C n) (k5 C n)) ≤ 2) → ((((sideL (k1 C n) (k2 C n) (k3 C n) (k4 C n) (k5 C n)) ≠ (sideL (k1 C n) (k2 C n) (k3 C n) (k4 C n) (k5 C n))) → (((((k1 C n) = (k1 C n)) ∧ (((k2 C n) = (k2 C n)) ∧ ((k3 C n) = (k3 C n)))) ∧ (((k4 C n) = (k4 C n)) ∧ ((k5 C n) = (k5 C n)))) ∧ (((-1) ≤ (sideL (k1 C n) (k2 C n) (k3 C n) (k4 C n) (k5 C n)) ∧ (sideL (k1 C n) (k2 C n) (k3 C n) (k4 C n) (k5 C n)) ≤ 2) → ((sideL (k1 C n) (k2 C n) (k3 C n) (k4 C n) (k5 C n)) = (sideL (k1 C n) (k2 C n) (k3 C n) (k4 C n) (k5 C n)))))) ∧ (((sideL (k1 C n) (k2 C n) (k3 C n) (k4 C n) (k5 C n)) = (sideL (k1 C n) (k2 C n) (k3 C n) (k4 C n) (k5 C n))) → ((((k4 C n) = (k4 C n)) ∧ ((k5 C n) = (k5 C n))) ∧ ((((okP (k4 C n) (k5 C n)) = false) → (((((k1 C n) = (k1 C n)) ∧ (((k2 C n) = (k2 C n)) ∧ ((k3 C n) = (k3 C n)))) ∧ (((k4 C n) = (k4 C n)) ∧ ((k5 C n) = (k5 C n)))) ∧ (((-1) ≤ (sideL (k1 C n) (k2 C n) (k3 C n) (k4 C n) (k5 C n)) ∧ (sideL (k1 C n) (k2 C n) (k3 C n) (k4 C n) (k5 C n)) ≤ 2) → ((sideL (k1 C n) (k2 C n) (k3 C n) (k4 C n) (k5 C n)) = (sideL (k1 C n) (k2 C n) (k3 C n) (k4 C n) (k5 C n)))))) ∧ (((okP (k4 C n) (k5 C n)) = true) → ((((ltOK (pX D m) (pY D m) (rX D m) (rY D m)) = false) → (((((k1 C n) = (k1 C n)) ∧ (((k2 C n) = (k2 C n)) ∧ ((k3 C n) = (k3 C n)))) ∧ (((k4 C n) = (k4 C n)) ∧ ((k5 C n) = (k5 C n)))) ∧ (((-1) ≤ (sideL (k1 C n) (k2 C n) (k3 C n) (k4 C n) (k5 C n)) ∧ (sideL (k1 C n) (k2 C n) (k3 C n) (k4 C n) (k5 C n)) ≤ 2) → ((sideL (k1 C n) (k2 C n) (k3 C n) (k4 C n) (k5 C n)) = (sideL (k1 C n) (k2 C n) (k3 C n) (k4 C n) (k5 C n)))))) ∧ (((ltOK (pX D m) (pY D m) (rX D m) (rY D m)) = true) → (((((pX D m) = (pX D m)) ∧ ((pY D m) = (pY D m))) ∧ ((((rX D m) = (rX D m)) ∧ ((rY D m) = (rY D m))) ∧ (((k4 C n) = (k4 C n)) ∧ ((k5 C n) = (k5 C n))))) ∧ (((-1) ≤ (ornt (pX D m) (pY D m) (rX D m) (rY D m) (k4 C n) (k5 C n)) ∧ (ornt (pX D m) (pY D m) (rX D m) (rY D m) (k4 C n) (k5 C n)) ≤ 2) → (((((liA (pX D m) (pY D m) (rX D m) (rY D m)) = (liA (pX D m) (pY D m) (rX D m) (rY D m))) ∧ (((liB (pX D m) (pY D m) (rX D m) (rY D m)) = (liB (pX D m) (pY D m) (rX D m) (rY D m))) ∧ ((liC (pX D m) (pY D m) (rX D m) (rY D m)) = (liC (pX D m) (pY D m) (rX D m) (rY D m))))) ∧ (((k4 C n) = (k4 C n)) ∧ ((k5 C n) = (k5 C n)))) ∧ (((-1) ≤ (sideL (liA (pX D m) (pY D m) (rX D m) (rY D m)) (liB (pX D m) (pY D m) (rX D m) (rY D m)) (liC (pX D m) (pY D m) (rX D m) (rY D m)) (k4 C n) (k5 C n)) ∧ (sideL (liA (pX D m) (pY D m) (rX D m) (rY D m)) (liB (pX D m) (pY D m) (rX D m) (rY D m)) (liC (pX D m) (pY D m) (rX D m) (rY D m)) (k4 C n) (k5 C n)) ≤ 2) → ((((((ornt (pX D m) (pY D m) (rX D m) (rY D m) (k4 C n) (k5 C n)) = 0) ↔ ((sideL (liA (pX D m) (pY D m) (rX D m) (rY D m)) (liB (pX D m) (pY D m) (rX D m) (rY D m)) (liC (pX D m) (pY D m) (rX D m) (rY D m)) (k4 C n) (k5 C n)) = 0))) → (((((pX D m) - ((rY D m) - (pY D m))) = ((pX D m) - ((rY D m) - (pY D m)))) ∧ ((((pY D m) + (rX D m)) - (pX D m)) = (((pY D m) + (rX D m)) - (pX D m)))) ∧ (((okP ((pX D m) - ((rY D m) - (pY D m))) (((pY D m) + (rX D m)) - (pX D m))) = true) → (((((liA (pX D m) (pY D m) (rX D m) (rY D m)) = (liA (pX D m) (pY D m) (rX D m) (rY D m))) ∧ (((liB (pX D m) (pY D m) (rX D m) (rY D m)) = (liB (pX D m) (pY D m) (rX D m) (rY D m))) ∧ ((liC (pX D m) (pY D m) (rX D m) (rY D m)) = (liC (pX D m) (pY D m) (rX D m) (rY D m))))) ∧ ((((pX D m) - ((rY D m) - (pY D m))) = ((pX D m) - ((rY D m) - (pY D m)))) ∧ ((((pY D m) + (rX D m)) - (pX D m)) = (((pY D m) + (rX D m)) - (pX D m))))) ∧ (((-1) ≤ (sideL (liA (pX D m) (pY D m) (rX D m) (rY D m)) (liB (pX D m) (pY D m) (rX D m) (rY D m)) (liC (pX D m) (pY D m) (rX D m) (rY D m)) ((pX D m) - ((rY D m) - (pY D m))) (((pY D m) + (rX D m)) - (pX D m))) ∧ (sideL (liA (pX D m) (pY D m) (rX D m) (rY D m)) (liB (pX D m) (pY D m) (rX D m) (rY D m)) (liC (pX D m) (pY D m) (rX D m) (rY D m)) ((pX D m) - ((rY D m) - (pY D m))) (((pY D m) + (rX D m)) - (pX D m))) ≤ 2) → ((sideL (liA (pX D m) (pY D m) (rX D m) (rY D m)) (liB (pX D m) (pY D m) (rX D m) (rY D m)) (liC (pX D m) (pY D m) (rX D m) (rY D m)) (k4 C n) (k5 C n)) = ((ornt (pX D m) (pY D m) (rX D m) (rY D m) (k4 C n) (k5 C n)) * (sideL (liA (pX D m) (pY D m) (rX D m) (rY D m)) (liB (pX D m) (pY D m) (rX D m) (rY D m)) (liC (pX D m) (pY D m) (rX D m) (rY D m)) ((pX D m) - ((rY D m) - (pY D m))) (((pY D m) + (rX D m)) - (pX D m)))))))))) ∧ (((((ornt (pX D m) (pY D m) (rX D m) (rY D m) (k4 C n) (k5 C n)) = 0) ↔ ((sideL (liA (pX D m) (pY D m) (rX D m) (rY D m)) (liB (pX D m) (pY D m) (rX D m) (rY D m)) (liC (pX D m) (pY D m) (rX D m) (rY D m)) (k4 C n) (k5 C n)) ≠ 0))) → (False))))))))))))))))))))))))))))) (by kernel_rfl) ?_
  intro h1 h2
  intro c5
  intro c6
  refine ⟨rfl, ⟨Int.le_refl _, fun _ => fun _ => rfl⟩, ?_⟩
  intro c7
  refine ⟨⟨⟨rfl, ⟨rfl, rfl⟩⟩, ⟨rfl, rfl⟩⟩, ?_⟩
  intro c8
  refine ⟨rfl, ⟨Int.le_refl _, fun _ => fun _ => rfl⟩, ?_⟩
  intro c9
  refine ⟨⟨⟨rfl, rfl⟩, ⟨rfl, rfl⟩⟩, ?_⟩
  intro c10
  refine ⟨⟨⟨rfl, ⟨rfl, rfl⟩⟩, ⟨rfl, rfl⟩⟩, ?_⟩
  intro c11
  refine ⟨?_, ?_⟩
  · intro c12
    refine ⟨⟨⟨rfl, ⟨rfl, rfl⟩⟩, ⟨rfl, rfl⟩⟩, ?_⟩
    intro c13
    -- 1: (sideL (k1 C n) (k2 C n) (k3 C n) (k4 C n) (k5 C n)) = (sideL (k1 C n) (k2 C n) (k3 C n) (k4 C n) (k
    first | rfl | omega | (have hd := side_law (aX := pX D m) (aY := pY D m) (bX := rX D m) (bY := rY D m) (x := k4 C n) (y := k5 C n) (by assumption) (by assumption); first | omega | exact hd.1 | exact hd.2 (by assumption) | (have he := hd.2 (by assumption); omega) | (simp_all; done)) | (simp_all; done)
  · intro c14
    refine ⟨⟨rfl, rfl⟩, ?_, ?_⟩
    · intro c15
      refine ⟨⟨⟨rfl, ⟨rfl, rfl⟩⟩, ⟨rfl, rfl⟩⟩, ?_⟩
      intro c16
      -- 2: (sideL (k1 C n) (k2 C n) (k3 C n) (k4 C n) (k5 C n)) = (sideL (k1 C n) (k2 C n) (k3 C n) (k4 C n) (k
      first | rfl | omega | (have hd := side_law (aX := pX D m) (aY := pY D m) (bX := rX D m) (bY := rY D m) (x := k4 C n) (y := k5 C n) (by assumption) (by assumption); first | omega | exact hd.1 | exact hd.2 (by assumption) | (have he := hd.2 (by assumption); omega) | (simp_all; done)) | (simp_all; done)
    · intro c17
      refine ⟨?_, ?_⟩
      · intro c18
        refine ⟨⟨⟨rfl, ⟨rfl, rfl⟩⟩, ⟨rfl, rfl⟩⟩, ?_⟩
        intro c19
        -- 3: (sideL (k1 C n) (k2 C n) (k3 C n) (k4 C n) (k5 C n)) = (sideL (k1 C n) (k2 C n) (k3 C n) (k4 C n) (k
        first | rfl | omega | (have hd := side_law (aX := pX D m) (aY := pY D m) (bX := rX D m) (bY := rY D m) (x := k4 C n) (y := k5 C n) (by assumption) (by assumption); first | omega | exact hd.1 | exact hd.2 (by assumption) | (have he := hd.2 (by assumption); omega) | (simp_all; done)) | (simp_all; done)
      · intro c20
        refine ⟨⟨⟨rfl, rfl⟩, ⟨⟨rfl, rfl⟩, ⟨rfl, rfl⟩⟩⟩, ?_⟩
        intro c21
        refine ⟨⟨⟨rfl, ⟨rfl, rfl⟩⟩, ⟨rfl, rfl⟩⟩, ?_⟩
        intro c22
        refine ⟨?_, ?_⟩
        · intro c23
          refine ⟨⟨rfl, rfl⟩, ?_⟩
          intro c24
          refine ⟨⟨⟨rfl, ⟨rfl, rfl⟩⟩, ⟨rfl, rfl⟩⟩, ?_⟩
          intro c25
          -- 4: (sideL (liA (pX D m) (pY D m) (rX D m) (rY D m)) (liB (pX D m) (pY D m) (rX D m) (rY D m)) (liC (pX 
          first | rfl | omega | (have hd := side_law (aX := pX D m) (aY := pY D m) (bX := rX D m) (bY := rY D m) (x := k4 C n) (y := k5 C n) (by assumption) (by assumption); first | omega | exact hd.1 | exact hd.2 (by assumption) | (have he := hd.2 (by assumption); omega) | (simp_all; done)) | (simp_all; done)
        · intro c26
          -- 5: False
          first | rfl | omega | (have hd := side_law (aX := pX D m) (aY := pY D m) (bX := rX D m) (bY := rY D m) (x := k4 C n) (y := k5 C n) (by assumption) (by assumption); first | omega | exact hd.1 | exact hd.2 (by assumption) | (have he := hd.2 (by assumption); omega) | (simp_all; done)) | (simp_all; done)
def c_l_FnSideOf (C : Int → Int) (n : Int) (D : Int → Int) (m : Int) : Cn Try.prog := ⟨_, _, _, _, _, l_FnSideOf C n D m⟩
end Go.Proofs.Ytheehhfmdmflmaa
