/- Lines drawn. -/
import Derived.Test.YtoielngedkbmbaaK12
import Derived.Test.YtoielngedkbmbaaR3
set_option linter.unusedSimpArgs false
set_option linter.unusedVariables false
set_option maxRecDepth 100000
namespace Go.Proofs.Ytoielngedkbmbaa
open Go.Sym
def rlE (C : Int → Int) (n p : Int) : Bool := decide (rpX C n p = rpX C n (p + 1 + 1)) && decide (rpY C n p = rpY C n (p + 1 + 1))
def rlBY (C : Int → Int) (n p : Int) : Int := if rlE C n p = true then rpY C n (p + 1 + 1) + 1 else rpY C n (p + 1 + 1)
def rlA (C : Int → Int) (n p : Int) : Int := ltA (rpX C n (p + 1 + 1) - rpX C n p) (rlBY C n p - rpY C n p)
def rlB (C : Int → Int) (n p : Int) : Int := ltB (rpX C n (p + 1 + 1) - rpX C n p) (rlBY C n p - rpY C n p)
def rlC (C : Int → Int) (n p : Int) : Int := rlA C n p * rpX C n p + rlB C n p * rpY C n p
def alS (C : Int → Int) (n p : Int) : Int := pk C n (p + 1 + 1 + 1 + 1) 16
def alA (C : Int → Int) (n p : Int) : Int := if alS C n p = 0 then selL [-1, 2001] (pk C n (p + 1 + 1 + 1 + 1 + 1) 2) else if alS C n p = 1 then 2 else rlA C n p
def alB (C : Int → Int) (n p : Int) : Int := if alS C n p = 1 then 4 else rlB C n p
def alC (C : Int → Int) (n p : Int) : Int := if alS C n p = 1 then 6 else if alS C n p = 2 then selL [4000001, -4000001] (pk C n (p + 1 + 1 + 1 + 1 + 1) 2) else rlC C n p
def alP (C : Int → Int) (n p : Int) : Int := if alS C n p = 0 then p + 1 + 1 + 1 + 1 + 1 + 1 else if alS C n p = 1 then p + 1 + 1 + 1 + 1 + 1 else if alS C n p = 2 then p + 1 + 1 + 1 + 1 + 1 + 1 else p + 1 + 1 + 1 + 1 + 1
theorem alP_bd (C : Int → Int) (n p : Int) : p + 5 ≤ alP C n p ∧ alP C n p ≤ p + 6 := by unfold alP; split <;> (try split) <;> (try split) <;> omega
theorem randomLine (C : Int → Int) (n : Int) (p : Int) : RunsTo Try.prog 78 [(.ptr 0 2 (.lit 0) 0)] [some ⟨136, 2, true, (.lit [[(.sl 1 1 (.lit 0) (.v fun _ => n) 2000), (.int .i64 (.v fun _ => p) 0 9999800)]])⟩, some ⟨5, 1, false, (.sym (.v fun _ => n) fun e => [(.int .u8 (.v fun _ => (C (e.den))) 0 255)])⟩] (.agg [(.int .i64 (.v fun _ => rlA C n p) (-10000000) 10000000), (.int .i64 (.v fun _ => rlB C n p) (-10000000) 10000000), (.int .i64 (.v fun _ => rlC C n p) (-10000000) 10000000)]) [some ⟨136, 2, true, (.lit [[(.sl 1 1 (.lit 0) (.v fun _ => n) 2000), (.int .i64 (.v fun _ => p + 1 + 1 + 1 + 1) 0 9999804)]])⟩, some ⟨5, 1, false, (.sym (.v fun _ => n) fun e => [(.int .u8 (.v fun _ => (C (e.den))) 0 255)])⟩] := by
  refine RunsTo.go env Try.func78 rfl Try.call78 rfl rfl (fun _ _ => (.call (c_randomPoint C n p) (.call (c_randomPoint C n (p + 1 + 1)) (.ite (.callH (c_s_lineThrough (rpX C n p) (rpY C n p) (rpX C n (p + 1 + 1)) ((rpY C n (p + 1 + 1)) + 1)) .ret) (.callH (c_s_lineThrough (rpX C n p) (rpY C n p) (rpX C n (p + 1 + 1)) (rpY C n (p + 1 + 1))) .ret))))) (G := (True) → (((0 ≤ n ∧ n ≤ 2000) ∧ (0 ≤ p ∧ p ≤ 9999800)) ∧ (∀ e5 : E, ((0 ≤ e5.den ∧ e5.den < n) → (0 ≤ ((C (e5.den))) ∧ ((C (e5.den))) ≤ 255)))) → ((((n = n) ∧ (p = p)) ∧ ((n ≤ n) ∧ (∀ e1 : E, ((0 ≤ e1.den ∧ e1.den < n) → (((C (e1.den))) = ((C (e1.den)))))))) ∧ ((((n = n) ∧ (((p + 1 + 1) = (p + 1 + 1)) ∧ ((0 ≤ (p + 1 + 1) ∧ (p + 1 + 1) ≤ 9999902) → (0 ≤ (p + 1 + 1) ∧ (p + 1 + 1) ≤ 9999900)))) ∧ ((n ≤ n) ∧ (∀ e2 : E, ((0 ≤ e2.den ∧ e2.den < n) → (((C (e2.den))) = ((C (e2.den)))))))) ∧ ((((((rpX C n p) = (rpX C n (p + 1 + 1))) ∧ ((rpY C n p) = (rpY C n (p + 1 + 1))))) → (((rpX C n p) ≠ (rpX C n (p + 1 + 1)) ∨ (rpY C n p) ≠ ((rpY C n (p + 1 + 1)) + 1)) ∧ (((((rpX C n p) = (rpX C n p)) ∧ ((rpY C n p) = (rpY C n p))) ∧ (((rpX C n (p + 1 + 1)) = (rpX C n (p + 1 + 1))) ∧ (((rpY C n (p + 1 + 1)) + 1) = ((rpY C n (p + 1 + 1)) + 1)))) ∧ ((((ltA ((rpX C n (p + 1 + 1)) - (rpX C n p)) (((rpY C n (p + 1 + 1)) + 1) - (rpY C n p))) = (rlA C n p)) ∧ (((ltB ((rpX C n (p + 1 + 1)) - (rpX C n p)) (((rpY C n (p + 1 + 1)) + 1) - (rpY C n p))) = (rlB C n p)) ∧ ((ltA ((rpX C n (p + 1 + 1)) - (rpX C n p)) (((rpY C n (p + 1 + 1)) + 1) - (rpY C n p)) * (rpX C n p) + ltB ((rpX C n (p + 1 + 1)) - (rpX C n p)) (((rpY C n (p + 1 + 1)) + 1) - (rpY C n p)) * (rpY C n p)) = (rlC C n p)))) ∧ (((n = n) ∧ ((((p + 1 + 1) + 1 + 1) = (p + 1 + 1 + 1 + 1)) ∧ ((0 ≤ ((p + 1 + 1) + 1 + 1) ∧ ((p + 1 + 1) + 1 + 1) ≤ 9999902) → (0 ≤ (p + 1 + 1 + 1 + 1) ∧ (p + 1 + 1 + 1 + 1) ≤ 9999804)))) ∧ ((n ≤ n) ∧ (∀ e3 : E, ((0 ≤ e3.den ∧ e3.den < n) → (((C (e3.den))) = ((C (e3.den)))))))))))) ∧ (((((rpX C n p) ≠ (rpX C n (p + 1 + 1))) ∨ ((rpY C n p) ≠ (rpY C n (p + 1 + 1))))) → (((rpX C n p) ≠ (rpX C n (p + 1 + 1)) ∨ (rpY C n p) ≠ (rpY C n (p + 1 + 1))) ∧ (((((rpX C n p) = (rpX C n p)) ∧ ((rpY C n p) = (rpY C n p))) ∧ (((rpX C n (p + 1 + 1)) = (rpX C n (p + 1 + 1))) ∧ ((rpY C n (p + 1 + 1)) = (rpY C n (p + 1 + 1))))) ∧ ((((ltA ((rpX C n (p + 1 + 1)) - (rpX C n p)) ((rpY C n (p + 1 + 1)) - (rpY C n p))) = (rlA C n p)) ∧ (((ltB ((rpX C n (p + 1 + 1)) - (rpX C n p)) ((rpY C n (p + 1 + 1)) - (rpY C n p))) = (rlB C n p)) ∧ ((ltA ((rpX C n (p + 1 + 1)) - (rpX C n p)) ((rpY C n (p + 1 + 1)) - (rpY C n p)) * (rpX C n p) + ltB ((rpX C n (p + 1 + 1)) - (rpX C n p)) ((rpY C n (p + 1 + 1)) - (rpY C n p)) * (rpY C n p)) = (rlC C n p)))) ∧ (((n = n) ∧ ((((p + 1 + 1) + 1 + 1) = (p + 1 + 1 + 1 + 1)) ∧ ((0 ≤ ((p + 1 + 1) + 1 + 1) ∧ ((p + 1 + 1) + 1 + 1) ≤ 9999902) → (0 ≤ (p + 1 + 1 + 1 + 1) ∧ (p + 1 + 1 + 1 + 1) ≤ 9999804)))) ∧ ((n ≤ n) ∧ (∀ e4 : E, ((0 ≤ e4.den ∧ e4.den < n) → (((C (e4.den))) = ((C (e4.den)))))))))))))))) (by kernel_rfl) ?_
  intro h1 h2
  refine ⟨⟨⟨rfl, rfl⟩, ⟨Int.le_refl _, fun _ => fun _ => rfl⟩⟩, ?_, ?_, ?_⟩
  · refine ⟨?_, Int.le_refl _, fun _ => fun _ => rfl⟩
    refine ⟨rfl, rfl, ?_⟩
    intro c6
    -- 1: 0 ≤ (p + 1 + 1) ∧ (p + 1 + 1) ≤ 9999900
    first | rfl | omega | (have he : rlE C n p = false := (by simp only [rlE, Bool.and_eq_false_iff, decide_eq_false_iff_not]; omega); simp [rlA, rlB, rlC, rlBY, he]; done) | (simp_all [rlA, rlB, rlC, rlBY, rlE]; done) | (simp_all [rlA, rlB, rlC, rlBY, rlE]; omega)
  · intro c7
    refine ⟨?_, ⟨⟨rfl, rfl⟩, ⟨rfl, rfl⟩⟩, ?_, ?_, Int.le_refl _, fun _ => fun _ => rfl⟩
      -- 2: (rpX C n p) ≠ (rpX C n (p + 1 + 1)) ∨ (rpY C n p) ≠ ((rpY C n (p + 1 + 1)) + 1)
    · first | rfl | omega | (have he : rlE C n p = false := (by simp only [rlE, Bool.and_eq_false_iff, decide_eq_false_iff_not]; omega); simp [rlA, rlB, rlC, rlBY, he]; done) | (simp_all [rlA, rlB, rlC, rlBY, rlE]; done) | (simp_all [rlA, rlB, rlC, rlBY, rlE]; omega)
    · refine ⟨?_, ?_, ?_⟩
        -- 3: (ltA ((rpX C n (p + 1 + 1)) - (rpX C n p)) (((rpY C n (p + 1 + 1)) + 1) - (rpY C n p))) = (rlA C n p
      · first | rfl | omega | (have he : rlE C n p = false := (by simp only [rlE, Bool.and_eq_false_iff, decide_eq_false_iff_not]; omega); simp [rlA, rlB, rlC, rlBY, he]; done) | (simp_all [rlA, rlB, rlC, rlBY, rlE]; done) | (simp_all [rlA, rlB, rlC, rlBY, rlE]; omega)
        -- 4: (ltB ((rpX C n (p + 1 + 1)) - (rpX C n p)) (((rpY C n (p + 1 + 1)) + 1) - (rpY C n p))) = (rlB C n p
      · first | rfl | omega | (have he : rlE C n p = false := (by simp only [rlE, Bool.and_eq_false_iff, decide_eq_false_iff_not]; omega); simp [rlA, rlB, rlC, rlBY, he]; done) | (simp_all [rlA, rlB, rlC, rlBY, rlE]; done) | (simp_all [rlA, rlB, rlC, rlBY, rlE]; omega)
        -- 5: (ltA ((rpX C n (p + 1 + 1)) - (rpX C n p)) (((rpY C n (p + 1 + 1)) + 1) - (rpY C n p)) * (rpX C n p)
      · first | rfl | omega | (have he : rlE C n p = false := (by simp only [rlE, Bool.and_eq_false_iff, decide_eq_false_iff_not]; omega); simp [rlA, rlB, rlC, rlBY, he]; done) | (simp_all [rlA, rlB, rlC, rlBY, rlE]; done) | (simp_all [rlA, rlB, rlC, rlBY, rlE]; omega)
    · refine ⟨rfl, ?_, ?_⟩
        -- 6: ((p + 1 + 1) + 1 + 1) = (p + 1 + 1 + 1 + 1)
      · first | rfl | omega | (have he : rlE C n p = false := (by simp only [rlE, Bool.and_eq_false_iff, decide_eq_false_iff_not]; omega); simp [rlA, rlB, rlC, rlBY, he]; done) | (simp_all [rlA, rlB, rlC, rlBY, rlE]; done) | (simp_all [rlA, rlB, rlC, rlBY, rlE]; omega)
      · intro c8
        -- 7: 0 ≤ (p + 1 + 1 + 1 + 1) ∧ (p + 1 + 1 + 1 + 1) ≤ 9999804
        first | rfl | omega | (have he : rlE C n p = false := (by simp only [rlE, Bool.and_eq_false_iff, decide_eq_false_iff_not]; omega); simp [rlA, rlB, rlC, rlBY, he]; done) | (simp_all [rlA, rlB, rlC, rlBY, rlE]; done) | (simp_all [rlA, rlB, rlC, rlBY, rlE]; omega)
  · intro c9
    refine ⟨?_, ⟨⟨rfl, rfl⟩, ⟨rfl, rfl⟩⟩, ?_, ?_, Int.le_refl _, fun _ => fun _ => rfl⟩
      -- 8: (rpX C n p) ≠ (rpX C n (p + 1 + 1)) ∨ (rpY C n p) ≠ (rpY C n (p + 1 + 1))
    · first | rfl | omega | (have he : rlE C n p = false := (by simp only [rlE, Bool.and_eq_false_iff, decide_eq_false_iff_not]; omega); simp [rlA, rlB, rlC, rlBY, he]; done) | (simp_all [rlA, rlB, rlC, rlBY, rlE]; done) | (simp_all [rlA, rlB, rlC, rlBY, rlE]; omega)
    · refine ⟨?_, ?_, ?_⟩
        -- 9: (ltA ((rpX C n (p + 1 + 1)) - (rpX C n p)) ((rpY C n (p + 1 + 1)) - (rpY C n p))) = (rlA C n p)
      · first | rfl | omega | (have he : rlE C n p = false := (by simp only [rlE, Bool.and_eq_false_iff, decide_eq_false_iff_not]; omega); simp [rlA, rlB, rlC, rlBY, he]; done) | (simp_all [rlA, rlB, rlC, rlBY, rlE]; done) | (simp_all [rlA, rlB, rlC, rlBY, rlE]; omega)
        -- 10: (ltB ((rpX C n (p + 1 + 1)) - (rpX C n p)) ((rpY C n (p + 1 + 1)) - (rpY C n p))) = (rlB C n p)
      · first | rfl | omega | (have he : rlE C n p = false := (by simp only [rlE, Bool.and_eq_false_iff, decide_eq_false_iff_not]; omega); simp [rlA, rlB, rlC, rlBY, he]; done) | (simp_all [rlA, rlB, rlC, rlBY, rlE]; done) | (simp_all [rlA, rlB, rlC, rlBY, rlE]; omega)
        -- 11: (ltA ((rpX C n (p + 1 + 1)) - (rpX C n p)) ((rpY C n (p + 1 + 1)) - (rpY C n p)) * (rpX C n p) + ltB
      · first | rfl | omega | (have he : rlE C n p = false := (by simp only [rlE, Bool.and_eq_false_iff, decide_eq_false_iff_not]; omega); simp [rlA, rlB, rlC, rlBY, he]; done) | (simp_all [rlA, rlB, rlC, rlBY, rlE]; done) | (simp_all [rlA, rlB, rlC, rlBY, rlE]; omega)
    · refine ⟨rfl, ?_, ?_⟩
        -- 12: ((p + 1 + 1) + 1 + 1) = (p + 1 + 1 + 1 + 1)
      · first | rfl | omega | (have he : rlE C n p = false := (by simp only [rlE, Bool.and_eq_false_iff, decide_eq_false_iff_not]; omega); simp [rlA, rlB, rlC, rlBY, he]; done) | (simp_all [rlA, rlB, rlC, rlBY, rlE]; done) | (simp_all [rlA, rlB, rlC, rlBY, rlE]; omega)
      · intro c10
        -- 13: 0 ≤ (p + 1 + 1 + 1 + 1) ∧ (p + 1 + 1 + 1 + 1) ≤ 9999804
        first | rfl | omega | (have he : rlE C n p = false := (by simp only [rlE, Bool.and_eq_false_iff, decide_eq_false_iff_not]; omega); simp [rlA, rlB, rlC, rlBY, he]; done) | (simp_all [rlA, rlB, rlC, rlBY, rlE]; done) | (simp_all [rlA, rlB, rlC, rlBY, rlE]; omega)
def c_randomLine (C : Int → Int) (n : Int) (p : Int) : Cn Try.prog := ⟨_, _, _, _, _, randomLine C n p⟩
theorem one_2x (C : Int → Int) (n : Int) (p : Int) (L : Int → Int) : RunsTo Try.prog 131 [(.ptr 0 2 (.lit 0) 0), (.sl 1 1 (.lit 0) (.lit 2) 2)] [some ⟨136, 2, true, (.lit [[(.sl 2 1 (.lit 0) (.v fun _ => n) 2000), (.int .i64 (.v fun _ => p) 0 9999990)]])⟩, some ⟨3, 1, true, (.sym (.lit 2) fun e => [(.int .i64 (.v fun _ => (L (e.den))) (-10000000) 10000000)])⟩, some ⟨5, 1, false, (.sym (.v fun _ => n) fun e => [(.int .u8 (.v fun _ => (C (e.den))) 0 255)])⟩] (.int .i64 (.v fun _ => (L (pk C n p 2))) (-10000000) 10000000) [some ⟨136, 2, true, (.lit [[(.sl 2 1 (.lit 0) (.v fun _ => n) 2000), (.int .i64 (.v fun _ => p + 1) 0 9999991)]])⟩, some ⟨3, 1, true, (.sym (.lit 2) fun e => [(.int .i64 (.v fun _ => (L (e.den))) (-10000000) 10000000)])⟩, some ⟨5, 1, false, (.sym (.v fun _ => n) fun e => [(.int .u8 (.v fun _ => (C (e.den))) 0 255)])⟩] := by
  refine RunsTo.go env Try.func131 rfl Try.call131 rfl rfl (fun _ _ => (.callF (c_pick_2 C n p) (.need (.need .ret)))) (G := (True) → (((0 ≤ n ∧ n ≤ 2000) ∧ (0 ≤ p ∧ p ≤ 9999990)) ∧ ((∀ e5 : E, ((0 ≤ e5.den ∧ e5.den < 2) → ((-10000000) ≤ ((L (e5.den))) ∧ ((L (e5.den))) ≤ 10000000))) ∧ (∀ e4 : E, ((0 ≤ e4.den ∧ e4.den < n) → (0 ≤ ((C (e4.den))) ∧ ((C (e4.den))) ≤ 255))))) → (((0 ≤ (2 : Int) ∧ (2 : Int) ≤ 2) → (2 ≤ (2 : Int) ∧ (2 : Int) ≤ 2)) ∧ ((((n = n) ∧ (p = p)) ∧ ((n ≤ n) ∧ (∀ e1 : E, ((0 ≤ e1.den ∧ e1.den < n) → (((C (e1.den))) = ((C (e1.den)))))))) ∧ ((0 ≤ (pk C n p 2) ∧ (pk C n p 2) ≤ 1) → ((((0 ≤ (pk C n p 2)) ∧ ((pk C n p 2) < 2))) ∧ (((pk C n p 2) < 2) ∧ ((((L (pk C n p 2))) = ((L (pk C n p 2)))) ∧ (((n = n) ∧ (((p + 1) = (p + 1)) ∧ ((0 ≤ (p + 1) ∧ (p + 1) ≤ 10000001) → (0 ≤ (p + 1) ∧ (p + 1) ≤ 9999991)))) ∧ ((((2 : Int) ≤ 2) ∧ (∀ e3 : E, ((0 ≤ e3.den ∧ e3.den < 2) → (((L (e3.den))) = ((L (e3.den))))))) ∧ ((n ≤ n) ∧ (∀ e2 : E, ((0 ≤ e2.den ∧ e2.den < n) → (((C (e2.den))) = ((C (e2.den)))))))))))))))) (by kernel_rfl) ?_
  intro h1 h2
  refine ⟨?_, ⟨⟨rfl, rfl⟩, ⟨Int.le_refl _, fun _ => fun _ => rfl⟩⟩, ?_⟩
  · intro c6
    -- 1: 2 ≤ (2 : Int) ∧ (2 : Int) ≤ 2
    first | rfl | omega
  · intro c7
    refine ⟨?_, ?_, rfl, ?_, ⟨Int.le_refl _, fun _ => fun _ => rfl⟩, Int.le_refl _, fun _ => fun _ => rfl⟩
      -- 2: ((0 ≤ (pk C n p 2)) ∧ ((pk C n p 2) < 2))
    · first | rfl | omega
      -- 3: (pk C n p 2) < 2
    · first | rfl | omega
    · refine ⟨rfl, rfl, ?_⟩
      intro c8
      -- 4: 0 ≤ (p + 1) ∧ (p + 1) ≤ 9999991
      first | rfl | omega
def c_one_2x (C : Int → Int) (n : Int) (p : Int) (L : Int → Int) : Cn Try.prog := ⟨_, _, _, _, _, one_2x C n p L⟩
theorem anyLine (C : Int → Int) (n : Int) (p : Int) : RunsTo Try.prog 76 [(.ptr 0 2 (.lit 0) 0)] [some ⟨136, 2, true, (.lit [[(.sl 1 1 (.lit 0) (.v fun _ => n) 2000), (.int .i64 (.v fun _ => p) 0 9999700)]])⟩, some ⟨5, 1, false, (.sym (.v fun _ => n) fun e => [(.int .u8 (.v fun _ => (C (e.den))) 0 255)])⟩] (.agg [(.int .i64 (.v fun _ => alA C n p) (-10000000) 10000000), (.int .i64 (.v fun _ => alB C n p) (-10000000) 10000000), (.int .i64 (.v fun _ => alC C n p) (-10000000) 10000000)]) [some ⟨136, 2, true, (.lit [[(.sl 1 1 (.lit 0) (.v fun _ => n) 2000), (.int .i64 (.v fun _ => alP C n p) 0 9999710)]])⟩, some ⟨5, 1, false, (.sym (.v fun _ => n) fun e => [(.int .u8 (.v fun _ => (C (e.den))) 0 255)])⟩] := by
  refine RunsTo.go env Try.func76 rfl Try.call76 rfl rfl (fun _ _ => (.call (c_randomLine C n p) (.call (c_pick_16 C n (p + 1 + 1 + 1 + 1)) (.ite (.call (c_one_2x C n ((p + 1 + 1 + 1 + 1) + 1) (selL [(-1), 2001])) .ret) (.ite .ret (.ite (.call (c_one_2x C n ((p + 1 + 1 + 1 + 1) + 1) (selL [4000001, (-4000001)])) .ret) .ret)))))) (G := (True) → (((0 ≤ n ∧ n ≤ 2000) ∧ (0 ≤ p ∧ p ≤ 9999700)) ∧ (∀ e13 : E, ((0 ≤ e13.den ∧ e13.den < n) → (0 ≤ ((C (e13.den))) ∧ ((C (e13.den))) ≤ 255)))) → ((((n = n) ∧ (p = p)) ∧ ((n ≤ n) ∧ (∀ e1 : E, ((0 ≤ e1.den ∧ e1.den < n) → (((C (e1.den))) = ((C (e1.den)))))))) ∧ ((((n = n) ∧ ((p + 1 + 1 + 1 + 1) = (p + 1 + 1 + 1 + 1))) ∧ ((n ≤ n) ∧ (∀ e2 : E, ((0 ≤ e2.den ∧ e2.den < n) → (((C (e2.den))) = ((C (e2.den)))))))) ∧ ((((pk C n (p + 1 + 1 + 1 + 1) 16) = 0) → ((((n = n) ∧ ((((p + 1 + 1 + 1 + 1) + 1) = ((p + 1 + 1 + 1 + 1) + 1)) ∧ ((0 ≤ ((p + 1 + 1 + 1 + 1) + 1) ∧ ((p + 1 + 1 + 1 + 1) + 1) ≤ 10000001) → (0 ≤ ((p + 1 + 1 + 1 + 1) + 1) ∧ ((p + 1 + 1 + 1 + 1) + 1) ≤ 9999990)))) ∧ (((∀ e5 : E, ((e5.den = 0) → (((-1) : Int) = (selL [(-1), 2001] (e5.den))))) ∧ (∀ e4 : E, ((e4.den = 1) → ((2001 : Int) = (selL [(-1), 2001] (e4.den)))))) ∧ ((n ≤ n) ∧ (∀ e3 : E, ((0 ≤ e3.den ∧ e3.den < n) → (((C (e3.den))) = ((C (e3.den))))))))) ∧ (((((selL [(-1), 2001] (pk C n ((p + 1 + 1 + 1 + 1) + 1) 2))) = (alA C n p)) ∧ (((rlB C n p) = (alB C n p)) ∧ ((rlC C n p) = (alC C n p)))) ∧ (((n = n) ∧ (((((p + 1 + 1 + 1 + 1) + 1) + 1) = (alP C n p)) ∧ ((0 ≤ (((p + 1 + 1 + 1 + 1) + 1) + 1) ∧ (((p + 1 + 1 + 1 + 1) + 1) + 1) ≤ 9999991) → (0 ≤ (alP C n p) ∧ (alP C n p) ≤ 9999710)))) ∧ ((n ≤ n) ∧ (∀ e6 : E, ((0 ≤ e6.den ∧ e6.den < n) → (((C (e6.den))) = ((C (e6.den))))))))))) ∧ (((pk C n (p + 1 + 1 + 1 + 1) 16) ≠ 0) → ((((pk C n (p + 1 + 1 + 1 + 1) 16) = 1) → ((((2 : Int) = (alA C n p)) ∧ (((4 : Int) = (alB C n p)) ∧ ((6 : Int) = (alC C n p)))) ∧ (((n = n) ∧ ((((p + 1 + 1 + 1 + 1) + 1) = (alP C n p)) ∧ ((0 ≤ ((p + 1 + 1 + 1 + 1) + 1) ∧ ((p + 1 + 1 + 1 + 1) + 1) ≤ 10000001) → (0 ≤ (alP C n p) ∧ (alP C n p) ≤ 9999710)))) ∧ ((n ≤ n) ∧ (∀ e7 : E, ((0 ≤ e7.den ∧ e7.den < n) → (((C (e7.den))) = ((C (e7.den)))))))))) ∧ (((pk C n (p + 1 + 1 + 1 + 1) 16) ≠ 1) → ((((pk C n (p + 1 + 1 + 1 + 1) 16) = 2) → ((((n = n) ∧ ((((p + 1 + 1 + 1 + 1) + 1) = ((p + 1 + 1 + 1 + 1) + 1)) ∧ ((0 ≤ ((p + 1 + 1 + 1 + 1) + 1) ∧ ((p + 1 + 1 + 1 + 1) + 1) ≤ 10000001) → (0 ≤ ((p + 1 + 1 + 1 + 1) + 1) ∧ ((p + 1 + 1 + 1 + 1) + 1) ≤ 9999990)))) ∧ (((∀ e10 : E, ((e10.den = 0) → ((4000001 : Int) = (selL [4000001, (-4000001)] (e10.den))))) ∧ (∀ e9 : E, ((e9.den = 1) → (((-4000001) : Int) = (selL [4000001, (-4000001)] (e9.den)))))) ∧ ((n ≤ n) ∧ (∀ e8 : E, ((0 ≤ e8.den ∧ e8.den < n) → (((C (e8.den))) = ((C (e8.den))))))))) ∧ ((((rlA C n p) = (alA C n p)) ∧ (((rlB C n p) = (alB C n p)) ∧ (((selL [4000001, (-4000001)] (pk C n ((p + 1 + 1 + 1 + 1) + 1) 2))) = (alC C n p)))) ∧ (((n = n) ∧ (((((p + 1 + 1 + 1 + 1) + 1) + 1) = (alP C n p)) ∧ ((0 ≤ (((p + 1 + 1 + 1 + 1) + 1) + 1) ∧ (((p + 1 + 1 + 1 + 1) + 1) + 1) ≤ 9999991) → (0 ≤ (alP C n p) ∧ (alP C n p) ≤ 9999710)))) ∧ ((n ≤ n) ∧ (∀ e11 : E, ((0 ≤ e11.den ∧ e11.den < n) → (((C (e11.den))) = ((C (e11.den))))))))))) ∧ (((pk C n (p + 1 + 1 + 1 + 1) 16) ≠ 2) → ((((rlA C n p) = (alA C n p)) ∧ (((rlB C n p) = (alB C n p)) ∧ ((rlC C n p) = (alC C n p)))) ∧ (((n = n) ∧ ((((p + 1 + 1 + 1 + 1) + 1) = (alP C n p)) ∧ ((0 ≤ ((p + 1 + 1 + 1 + 1) + 1) ∧ ((p + 1 + 1 + 1 + 1) + 1) ≤ 10000001) → (0 ≤ (alP C n p) ∧ (alP C n p) ≤ 9999710)))) ∧ ((n ≤ n) ∧ (∀ e12 : E, ((0 ≤ e12.den ∧ e12.den < n) → (((C (e12.den))) = ((C (e12.den)))))))))))))))))) (by kernel_rfl) ?_
  intro h1 h2
  refine ⟨⟨⟨rfl, rfl⟩, ⟨Int.le_refl _, fun _ => fun _ => rfl⟩⟩, ⟨⟨rfl, rfl⟩, ⟨Int.le_refl _, fun _ => fun _ => rfl⟩⟩, ?_, ?_⟩
  · intro c14
    refine ⟨?_, ?_, ?_, Int.le_refl _, fun _ => fun _ => rfl⟩
    · refine ⟨?_, ?_, Int.le_refl _, fun _ => fun _ => rfl⟩
      · refine ⟨rfl, rfl, ?_⟩
        intro c15
        -- 1: 0 ≤ ((p + 1 + 1 + 1 + 1) + 1) ∧ ((p + 1 + 1 + 1 + 1) + 1) ≤ 9999990
        first | rfl | omega | (simp_all [selL]; done) | (simp_all [alA, alB, alC, alP, alS]; done) | (simp_all [alA, alB, alC, alP, alS]; omega)
      · refine ⟨?_, ?_⟩
        · intro e5
          intro c16
          -- 2: ((-1) : Int) = (selL [(-1), 2001] (e5.den))
          first | rfl | omega | (simp_all [selL]; done) | (simp_all [alA, alB, alC, alP, alS]; done) | (simp_all [alA, alB, alC, alP, alS]; omega)
        · intro e4
          intro c17
          -- 3: (2001 : Int) = (selL [(-1), 2001] (e4.den))
          first | rfl | omega | (simp_all [selL]; done) | (simp_all [alA, alB, alC, alP, alS]; done) | (simp_all [alA, alB, alC, alP, alS]; omega)
    · refine ⟨?_, ?_, ?_⟩
        -- 4: ((selL [(-1), 2001] (pk C n ((p + 1 + 1 + 1 + 1) + 1) 2))) = (alA C n p)
      · first | rfl | omega | (simp_all [selL]; done) | (simp_all [alA, alB, alC, alP, alS]; done) | (simp_all [alA, alB, alC, alP, alS]; omega)
        -- 5: (rlB C n p) = (alB C n p)
      · first | rfl | omega | (simp_all [selL]; done) | (simp_all [alA, alB, alC, alP, alS]; done) | (simp_all [alA, alB, alC, alP, alS]; omega)
        -- 6: (rlC C n p) = (alC C n p)
      · first | rfl | omega | (simp_all [selL]; done) | (simp_all [alA, alB, alC, alP, alS]; done) | (simp_all [alA, alB, alC, alP, alS]; omega)
    · refine ⟨rfl, ?_, ?_⟩
        -- 7: (((p + 1 + 1 + 1 + 1) + 1) + 1) = (alP C n p)
      · first | rfl | omega | (simp_all [selL]; done) | (simp_all [alA, alB, alC, alP, alS]; done) | (simp_all [alA, alB, alC, alP, alS]; omega)
      · intro c18
        -- 8: 0 ≤ (alP C n p) ∧ (alP C n p) ≤ 9999710
        first | rfl | omega | (simp_all [selL]; done) | (simp_all [alA, alB, alC, alP, alS]; done) | (simp_all [alA, alB, alC, alP, alS]; omega)
  · intro c19
    refine ⟨?_, ?_⟩
    · intro c20
      refine ⟨?_, ?_, Int.le_refl _, fun _ => fun _ => rfl⟩
      · refine ⟨?_, ?_, ?_⟩
          -- 9: (2 : Int) = (alA C n p)
        · first | rfl | omega | (simp_all [selL]; done) | (simp_all [alA, alB, alC, alP, alS]; done) | (simp_all [alA, alB, alC, alP, alS]; omega)
          -- 10: (4 : Int) = (alB C n p)
        · first | rfl | omega | (simp_all [selL]; done) | (simp_all [alA, alB, alC, alP, alS]; done) | (simp_all [alA, alB, alC, alP, alS]; omega)
          -- 11: (6 : Int) = (alC C n p)
        · first | rfl | omega | (simp_all [selL]; done) | (simp_all [alA, alB, alC, alP, alS]; done) | (simp_all [alA, alB, alC, alP, alS]; omega)
      · refine ⟨rfl, ?_, ?_⟩
          -- 12: ((p + 1 + 1 + 1 + 1) + 1) = (alP C n p)
        · first | rfl | omega | (simp_all [selL]; done) | (simp_all [alA, alB, alC, alP, alS]; done) | (simp_all [alA, alB, alC, alP, alS]; omega)
        · intro c21
          -- 13: 0 ≤ (alP C n p) ∧ (alP C n p) ≤ 9999710
          first | rfl | omega | (simp_all [selL]; done) | (simp_all [alA, alB, alC, alP, alS]; done) | (simp_all [alA, alB, alC, alP, alS]; omega)
    · intro c22
      refine ⟨?_, ?_⟩
      · intro c23
        refine ⟨?_, ?_, ?_, Int.le_refl _, fun _ => fun _ => rfl⟩
        · refine ⟨?_, ?_, Int.le_refl _, fun _ => fun _ => rfl⟩
          · refine ⟨rfl, rfl, ?_⟩
            intro c24
            -- 14: 0 ≤ ((p + 1 + 1 + 1 + 1) + 1) ∧ ((p + 1 + 1 + 1 + 1) + 1) ≤ 9999990
            first | rfl | omega | (simp_all [selL]; done) | (simp_all [alA, alB, alC, alP, alS]; done) | (simp_all [alA, alB, alC, alP, alS]; omega)
          · refine ⟨?_, ?_⟩
            · intro e10
              intro c25
              -- 15: (4000001 : Int) = (selL [4000001, (-4000001)] (e10.den))
              first | rfl | omega | (simp_all [selL]; done) | (simp_all [alA, alB, alC, alP, alS]; done) | (simp_all [alA, alB, alC, alP, alS]; omega)
            · intro e9
              intro c26
              -- 16: ((-4000001) : Int) = (selL [4000001, (-4000001)] (e9.den))
              first | rfl | omega | (simp_all [selL]; done) | (simp_all [alA, alB, alC, alP, alS]; done) | (simp_all [alA, alB, alC, alP, alS]; omega)
        · refine ⟨?_, ?_, ?_⟩
            -- 17: (rlA C n p) = (alA C n p)
          · first | rfl | omega | (simp_all [selL]; done) | (simp_all [alA, alB, alC, alP, alS]; done) | (simp_all [alA, alB, alC, alP, alS]; omega)
            -- 18: (rlB C n p) = (alB C n p)
          · first | rfl | omega | (simp_all [selL]; done) | (simp_all [alA, alB, alC, alP, alS]; done) | (simp_all [alA, alB, alC, alP, alS]; omega)
            -- 19: ((selL [4000001, (-4000001)] (pk C n ((p + 1 + 1 + 1 + 1) + 1) 2))) = (alC C n p)
          · first | rfl | omega | (simp_all [selL]; done) | (simp_all [alA, alB, alC, alP, alS]; done) | (simp_all [alA, alB, alC, alP, alS]; omega)
        · refine ⟨rfl, ?_, ?_⟩
            -- 20: (((p + 1 + 1 + 1 + 1) + 1) + 1) = (alP C n p)
          · first | rfl | omega | (simp_all [selL]; done) | (simp_all [alA, alB, alC, alP, alS]; done) | (simp_all [alA, alB, alC, alP, alS]; omega)
          · intro c27
            -- 21: 0 ≤ (alP C n p) ∧ (alP C n p) ≤ 9999710
            first | rfl | omega | (simp_all [selL]; done) | (simp_all [alA, alB, alC, alP, alS]; done) | (simp_all [alA, alB, alC, alP, alS]; omega)
      · intro c28
        refine ⟨?_, ?_, Int.le_refl _, fun _ => fun _ => rfl⟩
        · refine ⟨?_, ?_, ?_⟩
            -- 22: (rlA C n p) = (alA C n p)
          · first | rfl | omega | (simp_all [selL]; done) | (simp_all [alA, alB, alC, alP, alS]; done) | (simp_all [alA, alB, alC, alP, alS]; omega)
            -- 23: (rlB C n p) = (alB C n p)
          · first | rfl | omega | (simp_all [selL]; done) | (simp_all [alA, alB, alC, alP, alS]; done) | (simp_all [alA, alB, alC, alP, alS]; omega)
            -- 24: (rlC C n p) = (alC C n p)
          · first | rfl | omega | (simp_all [selL]; done) | (simp_all [alA, alB, alC, alP, alS]; done) | (simp_all [alA, alB, alC, alP, alS]; omega)
        · refine ⟨rfl, ?_, ?_⟩
            -- 25: ((p + 1 + 1 + 1 + 1) + 1) = (alP C n p)
          · first | rfl | omega | (simp_all [selL]; done) | (simp_all [alA, alB, alC, alP, alS]; done) | (simp_all [alA, alB, alC, alP, alS]; omega)
          · intro c29
            -- 26: 0 ≤ (alP C n p) ∧ (alP C n p) ≤ 9999710
            first | rfl | omega | (simp_all [selL]; done) | (simp_all [alA, alB, alC, alP, alS]; done) | (simp_all [alA, alB, alC, alP, alS]; omega)
def c_anyLine (C : Int → Int) (n : Int) (p : Int) : Cn Try.prog := ⟨_, _, _, _, _, anyLine C n p⟩
end Go.Proofs.Ytoielngedkbmbaa
