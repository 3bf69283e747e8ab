/- FnMapPoints: the walk. -/
import Derived.Test.YthedmdhllcgpcaaK9
import Derived.Test.YthedmdhllcgpcaaK10
set_option linter.unusedSimpArgs false
set_option linter.unusedVariables false
set_option maxRecDepth 100000
namespace Go.Proofs.Ythedmdhllcgpcaa
open Go.Sym
def rmA (C : Int → Int) (n p : Int) : Int := if pk C n p 2 = 0 then 1 + (pk C n (p + 1) 5 - 2) * (pk C n (p + 1 + 1) 5 - 2) else pk C n (p + 1) 7 - 3
def rmB (C : Int → Int) (n p : Int) : Int := if pk C n p 2 = 0 then pk C n (p + 1) 5 - 2 else pk C n (p + 1 + 1) 7 - 3
def rmC (C : Int → Int) (n p : Int) : Int := if pk C n p 2 = 0 then pk C n (p + 1 + 1) 5 - 2 else pk C n (p + 1 + 1 + 1) 7 - 3
def rmD (C : Int → Int) (n p : Int) : Int := if pk C n p 2 = 0 then 1 else pk C n (p + 1 + 1 + 1 + 1) 7 - 3
def rmP (C : Int → Int) (n p : Int) : Int := if pk C n p 2 = 0 then p + 1 + 1 + 1 else p + 1 + 1 + 1 + 1 + 1
def amA (C : Int → Int) (n p : Int) : Int := if pk C n (rmP C n p) 14 = 0 then selL [1001, -1001, 1000] (pk C n (rmP C n p + 1) 3) else rmA C n p
def amD (C : Int → Int) (n p : Int) : Int := if pk C n (rmP C n p) 14 = 1 then selL [1001, -1001, 1000] (pk C n (rmP C n p + 1) 3) else rmD C n p
def amP (C : Int → Int) (n p : Int) : Int := if pk C n (rmP C n p) 14 = 0 then rmP C n p + 1 + 1 else if pk C n (rmP C n p) 14 = 1 then rmP C n p + 1 + 1 else rmP C n p + 1
theorem rmP_bd (C : Int → Int) (n p : Int) : p + 3 ≤ rmP C n p ∧ rmP C n p ≤ p + 5 := by unfold rmP; split <;> omega
theorem amP_bd (C : Int → Int) (n p : Int) : p + 3 ≤ amP C n p ∧ amP C n p ≤ p + 7 := by have := rmP_bd C n p; unfold amP; split <;> (try split) <;> omega
def lmX (C : Int → Int) (n : Int) : Int → Int := anX C (cut n) (amP C (cut n) 0) 6
def lmY (C : Int → Int) (n : Int) : Int → Int := anY C (cut n) (amP C (cut n) 0) 6
def lmN (C : Int → Int) (n : Int) : Int := anN C (cut n) (amP C (cut n) 0) 6
def ma (C : Int → Int) (n : Int) : Int := amA C (cut n) 0
def mb (C : Int → Int) (n : Int) : Int := rmB C (cut n) 0
def mc (C : Int → Int) (n : Int) : Int := rmC C (cut n) 0
def md (C : Int → Int) (n : Int) : Int := amD C (cut n) 0
def detM (a b c d : Int) : Int := if okM a b c d = true then a * d - b * c else 0
def ivB (a b c d : Int) : Bool := decide (detM a b c d = 1) || decide (detM a b c d = -1)
def iv (a b c d x : Int) : Int := if ivB a b c d = true then x else 0
theorem one_3 (C : Int → Int) (n : Int) (p : Int) (L : Int → Int) : RunsTo Try.prog 54 [(.ptr 0 2 (.lit 0) 0), (.sl 1 1 (.lit 0) (.lit 3) 3)] [some ⟨70, 2, true, (.lit [[(.sl 2 1 (.lit 0) (.v fun _ => n) 2000), (.int .i64 (.v fun _ => p) 0 9999990)]])⟩, some ⟨3, 1, true, (.sym (.lit 3) fun e => [(.int .i64 (.v fun _ => (L (e.den))) (-1001) 1001)])⟩, some ⟨5, 1, false, (.sym (.v fun _ => n) fun e => [(.int .u8 (.v fun _ => (C (e.den))) 0 255)])⟩] (.int .i64 (.v fun _ => (L (pk C n p 3))) (-1001) 1001) [some ⟨70, 2, true, (.lit [[(.sl 2 1 (.lit 0) (.v fun _ => n) 2000), (.int .i64 (.v fun _ => p + 1) 0 9999991)]])⟩, some ⟨3, 1, true, (.sym (.lit 3) fun e => [(.int .i64 (.v fun _ => (L (e.den))) (-1001) 1001)])⟩, some ⟨5, 1, false, (.sym (.v fun _ => n) fun e => [(.int .u8 (.v fun _ => (C (e.den))) 0 255)])⟩] := by
  refine RunsTo.go env Try.func54 rfl Try.call54 rfl rfl (fun _ _ => (.callF (c_pick_3 C n p) (.need (.need .ret)))) (G := (True) → (((0 ≤ n ∧ n ≤ 2000) ∧ (0 ≤ p ∧ p ≤ 9999990)) ∧ ((∀ e5 : E, ((0 ≤ e5.den ∧ e5.den < 3) → ((-1001) ≤ ((L (e5.den))) ∧ ((L (e5.den))) ≤ 1001))) ∧ (∀ e4 : E, ((0 ≤ e4.den ∧ e4.den < n) → (0 ≤ ((C (e4.den))) ∧ ((C (e4.den))) ≤ 255))))) → (((0 ≤ (3 : Int) ∧ (3 : Int) ≤ 3) → (3 ≤ (3 : Int) ∧ (3 : Int) ≤ 3)) ∧ ((((n = n) ∧ (p = p)) ∧ ((n ≤ n) ∧ (∀ e1 : E, ((0 ≤ e1.den ∧ e1.den < n) → (((C (e1.den))) = ((C (e1.den)))))))) ∧ ((0 ≤ (pk C n p 3) ∧ (pk C n p 3) ≤ 2) → ((((0 ≤ (pk C n p 3)) ∧ ((pk C n p 3) < 3))) ∧ (((pk C n p 3) < 3) ∧ ((((L (pk C n p 3))) = ((L (pk C n p 3)))) ∧ (((n = n) ∧ (((p + 1) = (p + 1)) ∧ ((0 ≤ (p + 1) ∧ (p + 1) ≤ 10000001) → (0 ≤ (p + 1) ∧ (p + 1) ≤ 9999991)))) ∧ ((((3 : Int) ≤ 3) ∧ (∀ e3 : E, ((0 ≤ e3.den ∧ e3.den < 3) → (((L (e3.den))) = ((L (e3.den))))))) ∧ ((n ≤ n) ∧ (∀ e2 : E, ((0 ≤ e2.den ∧ e2.den < n) → (((C (e2.den))) = ((C (e2.den)))))))))))))))) (by kernel_rfl) ?_
  intro h1 h2
  refine ⟨?_, ⟨⟨rfl, rfl⟩, ⟨Int.le_refl _, fun _ => fun _ => rfl⟩⟩, ?_⟩
  · intro c6
    -- 1: 3 ≤ (3 : Int) ∧ (3 : Int) ≤ 3
    first | rfl | omega
  · intro c7
    refine ⟨?_, ?_, rfl, ?_, ⟨Int.le_refl _, fun _ => fun _ => rfl⟩, Int.le_refl _, fun _ => fun _ => rfl⟩
      -- 2: ((0 ≤ (pk C n p 3)) ∧ ((pk C n p 3) < 3))
    · first | rfl | omega
      -- 3: (pk C n p 3) < 3
    · first | rfl | omega
    · refine ⟨rfl, rfl, ?_⟩
      intro c8
      -- 4: 0 ≤ (p + 1) ∧ (p + 1) ≤ 9999991
      first | rfl | omega
def c_one_3 (C : Int → Int) (n : Int) (p : Int) (L : Int → Int) : Cn Try.prog := ⟨_, _, _, _, _, one_3 C n p L⟩
theorem randomMatrix (C : Int → Int) (n : Int) (p : Int) : RunsTo Try.prog 52 [(.ptr 0 2 (.lit 0) 0)] [some ⟨70, 2, true, (.lit [[(.sl 1 1 (.lit 0) (.v fun _ => n) 2000), (.int .i64 (.v fun _ => p) 0 9999500)]])⟩, some ⟨5, 1, false, (.sym (.v fun _ => n) fun e => [(.int .u8 (.v fun _ => (C (e.den))) 0 255)])⟩] (.agg [(.int .i64 (.v fun _ => rmA C n p) (-1001) 1001), (.int .i64 (.v fun _ => rmB C n p) (-1001) 1001), (.int .i64 (.v fun _ => rmC C n p) (-1001) 1001), (.int .i64 (.v fun _ => rmD C n p) (-1001) 1001)]) [some ⟨70, 2, true, (.lit [[(.sl 1 1 (.lit 0) (.v fun _ => n) 2000), (.int .i64 (.v fun _ => rmP C n p) 0 9999510)]])⟩, some ⟨5, 1, false, (.sym (.v fun _ => n) fun e => [(.int .u8 (.v fun _ => (C (e.den))) 0 255)])⟩] := by
  refine RunsTo.go env Try.func52 rfl Try.call52 rfl rfl (fun _ _ => (.callF (c_pick_2 C n p) (.ite (.callF (c_pick_5 C n (p + 1)) (.callF (c_pick_5 C n ((p + 1) + 1)) .ret)) (.callF (c_pick_7 C n (p + 1)) (.callF (c_pick_7 C n ((p + 1) + 1)) (.callF (c_pick_7 C n (((p + 1) + 1) + 1)) (.callF (c_pick_7 C n ((((p + 1) + 1) + 1) + 1)) .ret))))))) (G := (True) → (((0 ≤ n ∧ n ≤ 2000) ∧ (0 ≤ p ∧ p ≤ 9999500)) ∧ (∀ e10 : E, ((0 ≤ e10.den ∧ e10.den < n) → (0 ≤ ((C (e10.den))) ∧ ((C (e10.den))) ≤ 255)))) → ((((n = n) ∧ (p = p)) ∧ ((n ≤ n) ∧ (∀ e1 : E, ((0 ≤ e1.den ∧ e1.den < n) → (((C (e1.den))) = ((C (e1.den)))))))) ∧ ((0 ≤ (pk C n p 2) ∧ (pk C n p 2) ≤ 1) → ((((pk C n p 2) = 0) → ((((n = n) ∧ (((p + 1) = (p + 1)) ∧ ((0 ≤ (p + 1) ∧ (p + 1) ≤ 10000001) → (0 ≤ (p + 1) ∧ (p + 1) ≤ 10000000)))) ∧ ((n ≤ n) ∧ (∀ e2 : E, ((0 ≤ e2.den ∧ e2.den < n) → (((C (e2.den))) = ((C (e2.den)))))))) ∧ ((0 ≤ (pk C n (p + 1) 5) ∧ (pk C n (p + 1) 5) ≤ 4) → ((((n = n) ∧ ((((p + 1) + 1) = ((p + 1) + 1)) ∧ ((0 ≤ ((p + 1) + 1) ∧ ((p + 1) + 1) ≤ 10000001) → (0 ≤ ((p + 1) + 1) ∧ ((p + 1) + 1) ≤ 10000000)))) ∧ ((n ≤ n) ∧ (∀ e3 : E, ((0 ≤ e3.den ∧ e3.den < n) → (((C (e3.den))) = ((C (e3.den)))))))) ∧ ((0 ≤ (pk C n ((p + 1) + 1) 5) ∧ (pk C n ((p + 1) + 1) 5) ≤ 4) → ((((1 + (((pk C n (p + 1) 5) - 2) * ((pk C n ((p + 1) + 1) 5) - 2))) = (rmA C n p)) ∧ ((((pk C n (p + 1) 5) - 2) = (rmB C n p)) ∧ ((((pk C n ((p + 1) + 1) 5) - 2) = (rmC C n p)) ∧ ((1 : Int) = (rmD C n p))))) ∧ (((n = n) ∧ (((((p + 1) + 1) + 1) = (rmP C n p)) ∧ ((0 ≤ (((p + 1) + 1) + 1) ∧ (((p + 1) + 1) + 1) ≤ 10000001) → (0 ≤ (rmP C n p) ∧ (rmP C n p) ≤ 9999510)))) ∧ ((n ≤ n) ∧ (∀ e4 : E, ((0 ≤ e4.den ∧ e4.den < n) → (((C (e4.den))) = ((C (e4.den)))))))))))))) ∧ (((pk C n p 2) ≠ 0) → ((((n = n) ∧ (((p + 1) = (p + 1)) ∧ ((0 ≤ (p + 1) ∧ (p + 1) ≤ 10000001) → (0 ≤ (p + 1) ∧ (p + 1) ≤ 10000000)))) ∧ ((n ≤ n) ∧ (∀ e5 : E, ((0 ≤ e5.den ∧ e5.den < n) → (((C (e5.den))) = ((C (e5.den)))))))) ∧ ((0 ≤ (pk C n (p + 1) 7) ∧ (pk C n (p + 1) 7) ≤ 6) → ((((n = n) ∧ ((((p + 1) + 1) = ((p + 1) + 1)) ∧ ((0 ≤ ((p + 1) + 1) ∧ ((p + 1) + 1) ≤ 10000001) → (0 ≤ ((p + 1) + 1) ∧ ((p + 1) + 1) ≤ 10000000)))) ∧ ((n ≤ n) ∧ (∀ e6 : E, ((0 ≤ e6.den ∧ e6.den < n) → (((C (e6.den))) = ((C (e6.den)))))))) ∧ ((0 ≤ (pk C n ((p + 1) + 1) 7) ∧ (pk C n ((p + 1) + 1) 7) ≤ 6) → ((((n = n) ∧ (((((p + 1) + 1) + 1) = (((p + 1) + 1) + 1)) ∧ ((0 ≤ (((p + 1) + 1) + 1) ∧ (((p + 1) + 1) + 1) ≤ 10000001) → (0 ≤ (((p + 1) + 1) + 1) ∧ (((p + 1) + 1) + 1) ≤ 10000000)))) ∧ ((n ≤ n) ∧ (∀ e7 : E, ((0 ≤ e7.den ∧ e7.den < n) → (((C (e7.den))) = ((C (e7.den)))))))) ∧ ((0 ≤ (pk C n (((p + 1) + 1) + 1) 7) ∧ (pk C n (((p + 1) + 1) + 1) 7) ≤ 6) → ((((n = n) ∧ ((((((p + 1) + 1) + 1) + 1) = (((((p + 1) + 1) + 1) + 1))) ∧ ((0 ≤ ((((p + 1) + 1) + 1) + 1) ∧ ((((p + 1) + 1) + 1) + 1) ≤ 10000001) → (0 ≤ (((((p + 1) + 1) + 1) + 1)) ∧ (((((p + 1) + 1) + 1) + 1)) ≤ 10000000)))) ∧ ((n ≤ n) ∧ (∀ e8 : E, ((0 ≤ e8.den ∧ e8.den < n) → (((C (e8.den))) = ((C (e8.den)))))))) ∧ ((0 ≤ (pk C n ((((p + 1) + 1) + 1) + 1) 7) ∧ (pk C n ((((p + 1) + 1) + 1) + 1) 7) ≤ 6) → (((((pk C n (p + 1) 7) - 3) = (rmA C n p)) ∧ ((((pk C n ((p + 1) + 1) 7) - 3) = (rmB C n p)) ∧ ((((pk C n (((p + 1) + 1) + 1) 7) - 3) = (rmC C n p)) ∧ (((pk C n ((((p + 1) + 1) + 1) + 1) 7) - 3) = (rmD C n p))))) ∧ (((n = n) ∧ (((((((p + 1) + 1) + 1) + 1) + 1) = (rmP C n p)) ∧ ((0 ≤ (((((p + 1) + 1) + 1) + 1) + 1) ∧ (((((p + 1) + 1) + 1) + 1) + 1) ≤ 10000001) → (0 ≤ (rmP C n p) ∧ (rmP C n p) ≤ 9999510)))) ∧ ((n ≤ n) ∧ (∀ e9 : E, ((0 ≤ e9.den ∧ e9.den < n) → (((C (e9.den))) = ((C (e9.den)))))))))))))))))))))) (by kernel_rfl) ?_
  intro h1 h2
  refine ⟨⟨⟨rfl, rfl⟩, ⟨Int.le_refl _, fun _ => fun _ => rfl⟩⟩, ?_⟩
  intro c11
  refine ⟨?_, ?_⟩
  · intro c12
    refine ⟨?_, ?_⟩
    · refine ⟨?_, Int.le_refl _, fun _ => fun _ => rfl⟩
      refine ⟨rfl, rfl, ?_⟩
      intro c13
      -- 1: 0 ≤ (p + 1) ∧ (p + 1) ≤ 10000000
      first | rfl | omega | (simp_all [rmA, rmB, rmC, rmD, rmP]; done) | (simp_all [rmA, rmB, rmC, rmD, rmP]; omega)
    · intro c14
      refine ⟨?_, ?_⟩
      · refine ⟨?_, Int.le_refl _, fun _ => fun _ => rfl⟩
        refine ⟨rfl, rfl, ?_⟩
        intro c15
        -- 2: 0 ≤ ((p + 1) + 1) ∧ ((p + 1) + 1) ≤ 10000000
        first | rfl | omega | (simp_all [rmA, rmB, rmC, rmD, rmP]; done) | (simp_all [rmA, rmB, rmC, rmD, rmP]; omega)
      · intro c16
        refine ⟨?_, ?_, Int.le_refl _, fun _ => fun _ => rfl⟩
        · refine ⟨?_, ?_, ?_, ?_⟩
            -- 3: (1 + (((pk C n (p + 1) 5) - 2) * ((pk C n ((p + 1) + 1) 5) - 2))) = (rmA C n p)
          · first | rfl | omega | (simp_all [rmA, rmB, rmC, rmD, rmP]; done) | (simp_all [rmA, rmB, rmC, rmD, rmP]; omega)
            -- 4: ((pk C n (p + 1) 5) - 2) = (rmB C n p)
          · first | rfl | omega | (simp_all [rmA, rmB, rmC, rmD, rmP]; done) | (simp_all [rmA, rmB, rmC, rmD, rmP]; omega)
            -- 5: ((pk C n ((p + 1) + 1) 5) - 2) = (rmC C n p)
          · first | rfl | omega | (simp_all [rmA, rmB, rmC, rmD, rmP]; done) | (simp_all [rmA, rmB, rmC, rmD, rmP]; omega)
            -- 6: (1 : Int) = (rmD C n p)
          · first | rfl | omega | (simp_all [rmA, rmB, rmC, rmD, rmP]; done) | (simp_all [rmA, rmB, rmC, rmD, rmP]; omega)
        · refine ⟨rfl, ?_, ?_⟩
            -- 7: (((p + 1) + 1) + 1) = (rmP C n p)
          · first | rfl | omega | (simp_all [rmA, rmB, rmC, rmD, rmP]; done) | (simp_all [rmA, rmB, rmC, rmD, rmP]; omega)
          · intro c17
            -- 8: 0 ≤ (rmP C n p) ∧ (rmP C n p) ≤ 9999510
            first | rfl | omega | (simp_all [rmA, rmB, rmC, rmD, rmP]; done) | (simp_all [rmA, rmB, rmC, rmD, rmP]; omega)
  · intro c18
    refine ⟨?_, ?_⟩
    · refine ⟨?_, Int.le_refl _, fun _ => fun _ => rfl⟩
      refine ⟨rfl, rfl, ?_⟩
      intro c19
      -- 9: 0 ≤ (p + 1) ∧ (p + 1) ≤ 10000000
      first | rfl | omega | (simp_all [rmA, rmB, rmC, rmD, rmP]; done) | (simp_all [rmA, rmB, rmC, rmD, rmP]; omega)
    · intro c20
      refine ⟨?_, ?_⟩
      · refine ⟨?_, Int.le_refl _, fun _ => fun _ => rfl⟩
        refine ⟨rfl, rfl, ?_⟩
        intro c21
        -- 10: 0 ≤ ((p + 1) + 1) ∧ ((p + 1) + 1) ≤ 10000000
        first | rfl | omega | (simp_all [rmA, rmB, rmC, rmD, rmP]; done) | (simp_all [rmA, rmB, rmC, rmD, rmP]; omega)
      · intro c22
        refine ⟨?_, ?_⟩
        · refine ⟨?_, Int.le_refl _, fun _ => fun _ => rfl⟩
          refine ⟨rfl, rfl, ?_⟩
          intro c23
          -- 11: 0 ≤ (((p + 1) + 1) + 1) ∧ (((p + 1) + 1) + 1) ≤ 10000000
          first | rfl | omega | (simp_all [rmA, rmB, rmC, rmD, rmP]; done) | (simp_all [rmA, rmB, rmC, rmD, rmP]; omega)
        · intro c24
          refine ⟨?_, ?_⟩
          · refine ⟨?_, Int.le_refl _, fun _ => fun _ => rfl⟩
            refine ⟨rfl, rfl, ?_⟩
            intro c25
            -- 12: 0 ≤ (((((p + 1) + 1) + 1) + 1)) ∧ (((((p + 1) + 1) + 1) + 1)) ≤ 10000000
            first | rfl | omega | (simp_all [rmA, rmB, rmC, rmD, rmP]; done) | (simp_all [rmA, rmB, rmC, rmD, rmP]; omega)
          · intro c26
            refine ⟨?_, ?_, Int.le_refl _, fun _ => fun _ => rfl⟩
            · refine ⟨?_, ?_, ?_, ?_⟩
                -- 13: ((pk C n (p + 1) 7) - 3) = (rmA C n p)
              · first | rfl | omega | (simp_all [rmA, rmB, rmC, rmD, rmP]; done) | (simp_all [rmA, rmB, rmC, rmD, rmP]; omega)
                -- 14: ((pk C n ((p + 1) + 1) 7) - 3) = (rmB C n p)
              · first | rfl | omega | (simp_all [rmA, rmB, rmC, rmD, rmP]; done) | (simp_all [rmA, rmB, rmC, rmD, rmP]; omega)
                -- 15: ((pk C n (((p + 1) + 1) + 1) 7) - 3) = (rmC C n p)
              · first | rfl | omega | (simp_all [rmA, rmB, rmC, rmD, rmP]; done) | (simp_all [rmA, rmB, rmC, rmD, rmP]; omega)
                -- 16: ((pk C n ((((p + 1) + 1) + 1) + 1) 7) - 3) = (rmD C n p)
              · first | rfl | omega | (simp_all [rmA, rmB, rmC, rmD, rmP]; done) | (simp_all [rmA, rmB, rmC, rmD, rmP]; omega)
            · refine ⟨rfl, ?_, ?_⟩
                -- 17: (((((p + 1) + 1) + 1) + 1) + 1) = (rmP C n p)
              · first | rfl | omega | (simp_all [rmA, rmB, rmC, rmD, rmP]; done) | (simp_all [rmA, rmB, rmC, rmD, rmP]; omega)
              · intro c27
                -- 18: 0 ≤ (rmP C n p) ∧ (rmP C n p) ≤ 9999510
                first | rfl | omega | (simp_all [rmA, rmB, rmC, rmD, rmP]; done) | (simp_all [rmA, rmB, rmC, rmD, rmP]; omega)
def c_randomMatrix (C : Int → Int) (n : Int) (p : Int) : Cn Try.prog := ⟨_, _, _, _, _, randomMatrix C n p⟩
theorem anyMatrix (C : Int → Int) (n : Int) (p : Int) : RunsTo Try.prog 31 [(.ptr 0 2 (.lit 0) 0)] [some ⟨70, 2, true, (.lit [[(.sl 1 1 (.lit 0) (.v fun _ => n) 2000), (.int .i64 (.v fun _ => p) 0 9999400)]])⟩, some ⟨5, 1, false, (.sym (.v fun _ => n) fun e => [(.int .u8 (.v fun _ => (C (e.den))) 0 255)])⟩] (.agg [(.int .i64 (.v fun _ => amA C n p) (-1001) 1001), (.int .i64 (.v fun _ => rmB C n p) (-1001) 1001), (.int .i64 (.v fun _ => rmC C n p) (-1001) 1001), (.int .i64 (.v fun _ => amD C n p) (-1001) 1001)]) [some ⟨70, 2, true, (.lit [[(.sl 1 1 (.lit 0) (.v fun _ => n) 2000), (.int .i64 (.v fun _ => amP C n p) 0 9999420)]])⟩, some ⟨5, 1, false, (.sym (.v fun _ => n) fun e => [(.int .u8 (.v fun _ => (C (e.den))) 0 255)])⟩] := by
  refine RunsTo.go env Try.func31 rfl Try.call31 rfl rfl (fun _ _ => (.call (c_randomMatrix C n p) (.call (c_pick_14 C n (rmP C n p)) (.ite (.call (c_one_3 C n ((rmP C n p) + 1) (selL [1001, (-1001), 1000])) .ret) (.ite (.call (c_one_3 C n ((rmP C n p) + 1) (selL [1001, (-1001), 1000])) .ret) .ret))))) (G := (True) → (((0 ≤ n ∧ n ≤ 2000) ∧ (0 ≤ p ∧ p ≤ 9999400)) ∧ (∀ e14 : E, ((0 ≤ e14.den ∧ e14.den < n) → (0 ≤ ((C (e14.den))) ∧ ((C (e14.den))) ≤ 255)))) → ((((n = n) ∧ (p = p)) ∧ ((n ≤ n) ∧ (∀ e1 : E, ((0 ≤ e1.den ∧ e1.den < n) → (((C (e1.den))) = ((C (e1.den)))))))) ∧ ((((n = n) ∧ ((rmP C n p) = (rmP C n p))) ∧ ((n ≤ n) ∧ (∀ e2 : E, ((0 ≤ e2.den ∧ e2.den < n) → (((C (e2.den))) = ((C (e2.den)))))))) ∧ ((((pk C n (rmP C n p) 14) = 0) → ((((n = n) ∧ ((((rmP C n p) + 1) = ((rmP C n p) + 1)) ∧ ((0 ≤ ((rmP C n p) + 1) ∧ ((rmP C n p) + 1) ≤ 10000001) → (0 ≤ ((rmP C n p) + 1) ∧ ((rmP C n p) + 1) ≤ 9999990)))) ∧ (((∀ e6 : E, ((e6.den = 0) → ((1001 : Int) = (selL [1001, (-1001), 1000] (e6.den))))) ∧ ((∀ e5 : E, ((e5.den = 1) → (((-1001) : Int) = (selL [1001, (-1001), 1000] (e5.den))))) ∧ (∀ e4 : E, ((e4.den = 2) → ((1000 : Int) = (selL [1001, (-1001), 1000] (e4.den))))))) ∧ ((n ≤ n) ∧ (∀ e3 : E, ((0 ≤ e3.den ∧ e3.den < n) → (((C (e3.den))) = ((C (e3.den))))))))) ∧ (((((selL [1001, (-1001), 1000] (pk C n ((rmP C n p) + 1) 3))) = (amA C n p)) ∧ (((rmB C n p) = (rmB C n p)) ∧ (((rmC C n p) = (rmC C n p)) ∧ ((rmD C n p) = (amD C n p))))) ∧ (((n = n) ∧ (((((rmP C n p) + 1) + 1) = (amP C n p)) ∧ ((0 ≤ (((rmP C n p) + 1) + 1) ∧ (((rmP C n p) + 1) + 1) ≤ 9999991) → (0 ≤ (amP C n p) ∧ (amP C n p) ≤ 9999420)))) ∧ ((n ≤ n) ∧ (∀ e7 : E, ((0 ≤ e7.den ∧ e7.den < n) → (((C (e7.den))) = ((C (e7.den))))))))))) ∧ (((pk C n (rmP C n p) 14) ≠ 0) → ((((pk C n (rmP C n p) 14) = 1) → ((((n = n) ∧ ((((rmP C n p) + 1) = ((rmP C n p) + 1)) ∧ ((0 ≤ ((rmP C n p) + 1) ∧ ((rmP C n p) + 1) ≤ 10000001) → (0 ≤ ((rmP C n p) + 1) ∧ ((rmP C n p) + 1) ≤ 9999990)))) ∧ (((∀ e11 : E, ((e11.den = 0) → ((1001 : Int) = (selL [1001, (-1001), 1000] (e11.den))))) ∧ ((∀ e10 : E, ((e10.den = 1) → (((-1001) : Int) = (selL [1001, (-1001), 1000] (e10.den))))) ∧ (∀ e9 : E, ((e9.den = 2) → ((1000 : Int) = (selL [1001, (-1001), 1000] (e9.den))))))) ∧ ((n ≤ n) ∧ (∀ e8 : E, ((0 ≤ e8.den ∧ e8.den < n) → (((C (e8.den))) = ((C (e8.den))))))))) ∧ ((((rmA C n p) = (amA C n p)) ∧ (((rmB C n p) = (rmB C n p)) ∧ (((rmC C n p) = (rmC C n p)) ∧ (((selL [1001, (-1001), 1000] (pk C n ((rmP C n p) + 1) 3))) = (amD C n p))))) ∧ (((n = n) ∧ (((((rmP C n p) + 1) + 1) = (amP C n p)) ∧ ((0 ≤ (((rmP C n p) + 1) + 1) ∧ (((rmP C n p) + 1) + 1) ≤ 9999991) → (0 ≤ (amP C n p) ∧ (amP C n p) ≤ 9999420)))) ∧ ((n ≤ n) ∧ (∀ e12 : E, ((0 ≤ e12.den ∧ e12.den < n) → (((C (e12.den))) = ((C (e12.den))))))))))) ∧ (((pk C n (rmP C n p) 14) ≠ 1) → ((((rmA C n p) = (amA C n p)) ∧ (((rmB C n p) = (rmB C n p)) ∧ (((rmC C n p) = (rmC C n p)) ∧ ((rmD C n p) = (amD C n p))))) ∧ (((n = n) ∧ ((((rmP C n p) + 1) = (amP C n p)) ∧ ((0 ≤ ((rmP C n p) + 1) ∧ ((rmP C n p) + 1) ≤ 10000001) → (0 ≤ (amP C n p) ∧ (amP C n p) ≤ 9999420)))) ∧ ((n ≤ n) ∧ (∀ e13 : E, ((0 ≤ e13.den ∧ e13.den < n) → (((C (e13.den))) = ((C (e13.den)))))))))))))))) (by kernel_rfl) ?_
  intro h1 h2
  have hr := rmP_bd C n p
  refine ⟨⟨⟨rfl, rfl⟩, ⟨Int.le_refl _, fun _ => fun _ => rfl⟩⟩, ⟨⟨rfl, rfl⟩, ⟨Int.le_refl _, fun _ => fun _ => rfl⟩⟩, ?_, ?_⟩
  · intro c15
    refine ⟨?_, ?_, ?_, Int.le_refl _, fun _ => fun _ => rfl⟩
    · refine ⟨?_, ?_, Int.le_refl _, fun _ => fun _ => rfl⟩
      · refine ⟨rfl, rfl, ?_⟩
        intro c16
        -- 1: 0 ≤ ((rmP C n p) + 1) ∧ ((rmP C n p) + 1) ≤ 9999990
        first | rfl | omega | (simp_all [selL]; done) | (simp_all [amA, amD, amP]; done) | (simp_all [amA, amD, amP]; omega)
      · refine ⟨?_, ?_, ?_⟩
        · intro e6
          intro c17
          -- 2: (1001 : Int) = (selL [1001, (-1001), 1000] (e6.den))
          first | rfl | omega | (simp_all [selL]; done) | (simp_all [amA, amD, amP]; done) | (simp_all [amA, amD, amP]; omega)
        · intro e5
          intro c18
          -- 3: ((-1001) : Int) = (selL [1001, (-1001), 1000] (e5.den))
          first | rfl | omega | (simp_all [selL]; done) | (simp_all [amA, amD, amP]; done) | (simp_all [amA, amD, amP]; omega)
        · intro e4
          intro c19
          -- 4: (1000 : Int) = (selL [1001, (-1001), 1000] (e4.den))
          first | rfl | omega | (simp_all [selL]; done) | (simp_all [amA, amD, amP]; done) | (simp_all [amA, amD, amP]; omega)
    · refine ⟨?_, rfl, rfl, ?_⟩
        -- 5: ((selL [1001, (-1001), 1000] (pk C n ((rmP C n p) + 1) 3))) = (amA C n p)
      · first | rfl | omega | (simp_all [selL]; done) | (simp_all [amA, amD, amP]; done) | (simp_all [amA, amD, amP]; omega)
        -- 6: (rmD C n p) = (amD C n p)
      · first | rfl | omega | (simp_all [selL]; done) | (simp_all [amA, amD, amP]; done) | (simp_all [amA, amD, amP]; omega)
    · refine ⟨rfl, ?_, ?_⟩
        -- 7: (((rmP C n p) + 1) + 1) = (amP C n p)
      · first | rfl | omega | (simp_all [selL]; done) | (simp_all [amA, amD, amP]; done) | (simp_all [amA, amD, amP]; omega)
      · intro c20
        -- 8: 0 ≤ (amP C n p) ∧ (amP C n p) ≤ 9999420
        first | rfl | omega | (simp_all [selL]; done) | (simp_all [amA, amD, amP]; done) | (simp_all [amA, amD, amP]; omega)
  · intro c21
    refine ⟨?_, ?_⟩
    · intro c22
      refine ⟨?_, ?_, ?_, Int.le_refl _, fun _ => fun _ => rfl⟩
      · refine ⟨?_, ?_, Int.le_refl _, fun _ => fun _ => rfl⟩
        · refine ⟨rfl, rfl, ?_⟩
          intro c23
          -- 9: 0 ≤ ((rmP C n p) + 1) ∧ ((rmP C n p) + 1) ≤ 9999990
          first | rfl | omega | (simp_all [selL]; done) | (simp_all [amA, amD, amP]; done) | (simp_all [amA, amD, amP]; omega)
        · refine ⟨?_, ?_, ?_⟩
          · intro e11
            intro c24
            -- 10: (1001 : Int) = (selL [1001, (-1001), 1000] (e11.den))
            first | rfl | omega | (simp_all [selL]; done) | (simp_all [amA, amD, amP]; done) | (simp_all [amA, amD, amP]; omega)
          · intro e10
            intro c25
            -- 11: ((-1001) : Int) = (selL [1001, (-1001), 1000] (e10.den))
            first | rfl | omega | (simp_all [selL]; done) | (simp_all [amA, amD, amP]; done) | (simp_all [amA, amD, amP]; omega)
          · intro e9
            intro c26
            -- 12: (1000 : Int) = (selL [1001, (-1001), 1000] (e9.den))
            first | rfl | omega | (simp_all [selL]; done) | (simp_all [amA, amD, amP]; done) | (simp_all [amA, amD, amP]; omega)
      · refine ⟨?_, rfl, rfl, ?_⟩
          -- 13: (rmA C n p) = (amA C n p)
        · first | rfl | omega | (simp_all [selL]; done) | (simp_all [amA, amD, amP]; done) | (simp_all [amA, amD, amP]; omega)
          -- 14: ((selL [1001, (-1001), 1000] (pk C n ((rmP C n p) + 1) 3))) = (amD C n p)
        · first | rfl | omega | (simp_all [selL]; done) | (simp_all [amA, amD, amP]; done) | (simp_all [amA, amD, amP]; omega)
      · refine ⟨rfl, ?_, ?_⟩
          -- 15: (((rmP C n p) + 1) + 1) = (amP C n p)
        · first | rfl | omega | (simp_all [selL]; done) | (simp_all [amA, amD, amP]; done) | (simp_all [amA, amD, amP]; omega)
        · intro c27
          -- 16: 0 ≤ (amP C n p) ∧ (amP C n p) ≤ 9999420
          first | rfl | omega | (simp_all [selL]; done) | (simp_all [amA, amD, amP]; done) | (simp_all [amA, amD, amP]; omega)
    · intro c28
      refine ⟨?_, ?_, Int.le_refl _, fun _ => fun _ => rfl⟩
      · refine ⟨?_, rfl, rfl, ?_⟩
          -- 17: (rmA C n p) = (amA C n p)
        · first | rfl | omega | (simp_all [selL]; done) | (simp_all [amA, amD, amP]; done) | (simp_all [amA, amD, amP]; omega)
          -- 18: (rmD C n p) = (amD C n p)
        · first | rfl | omega | (simp_all [selL]; done) | (simp_all [amA, amD, amP]; done) | (simp_all [amA, amD, amP]; omega)
      · refine ⟨rfl, ?_, ?_⟩
          -- 19: ((rmP C n p) + 1) = (amP C n p)
        · first | rfl | omega | (simp_all [selL]; done) | (simp_all [amA, amD, amP]; done) | (simp_all [amA, amD, amP]; omega)
        · intro c29
          -- 20: 0 ≤ (amP C n p) ∧ (amP C n p) ≤ 9999420
          first | rfl | omega | (simp_all [selL]; done) | (simp_all [amA, amD, amP]; done) | (simp_all [amA, amD, amP]; omega)
def c_anyMatrix (C : Int → Int) (n : Int) (p : Int) : Cn Try.prog := ⟨_, _, _, _, _, anyMatrix C n p⟩
theorem s_DrawMapPoints (C : Int → Int) (n : Int) : RunsTo Try.prog 13 [(.sl 0 1 (.lit 0) (.v fun _ => n) 9223372036854775807)] [some ⟨5, 1, false, (.sym (.v fun _ => n) fun e => [(.int .u8 (.v fun _ => (C (e.den))) 0 255)])⟩] (.tup [(.agg [(.int .i64 (.v fun _ => ma C n) (-1001) 1001), (.int .i64 (.v fun _ => mb C n) (-1001) 1001), (.int .i64 (.v fun _ => mc C n) (-1001) 1001), (.int .i64 (.v fun _ => md C n) (-1001) 1001)]), (.sl 1 2 (.lit 0) (.v fun _ => lmN C n) 64)]) [some ⟨5, 1, false, (.sym (.v fun _ => cut n) fun e => [(.int .u8 (.v fun _ => (C (e.den))) 0 255)])⟩, some ⟨48, 2, true, (.sym (.v fun _ => lmN C n) fun e => [(.int .i64 (.v fun _ => lmX C n e.den) (-200) 1001), (.int .i64 (.v fun _ => lmY C n e.den) (-111) 481)])⟩] := by
  refine RunsTo.go env Try.func13 rfl Try.call13 rfl rfl (fun _ _ => (.call (c_s_newReader C n) (.call (c_anyMatrix C (cut n) 0) (.call (c_anyPoints C (cut n) (amP C (cut n) 0) 6) .ret)))) (G := (0 ≤ n ∧ n ≤ 9223372036854775807) → (∀ e6 : E, ((0 ≤ e6.den ∧ e6.den < n) → (0 ≤ ((C (e6.den))) ∧ ((C (e6.den))) ≤ 255))) → ((n = n) ∧ (((n ≤ n) ∧ (∀ e1 : E, ((0 ≤ e1.den ∧ e1.den < n) → (((C (e1.den))) = ((C (e1.den))))))) ∧ (((((cut n) = (cut n)) ∧ ((0 : Int) = 0)) ∧ (((cut n) ≤ (cut n)) ∧ (∀ e2 : E, ((0 ≤ e2.den ∧ e2.den < (cut n)) → (((C (e2.den))) = ((C (e2.den)))))))) ∧ (((6 : Int) = 6) ∧ (((((cut n) = (cut n)) ∧ (((amP C (cut n) 0) = (amP C (cut n) 0)) ∧ ((0 ≤ (amP C (cut n) 0) ∧ (amP C (cut n) 0) ≤ 9999420) → (0 ≤ (amP C (cut n) 0) ∧ (amP C (cut n) 0) ≤ 9998000)))) ∧ (((cut n) ≤ (cut n)) ∧ (∀ e3 : E, ((0 ≤ e3.den ∧ e3.den < (cut n)) → (((C (e3.den))) = ((C (e3.den)))))))) ∧ (((((amA C (cut n) 0) = (ma C n)) ∧ (((rmB C (cut n) 0) = (mb C n)) ∧ (((rmC C (cut n) 0) = (mc C n)) ∧ ((amD C (cut n) 0) = (md C n))))) ∧ ((anN C (cut n) (amP C (cut n) 0) 6) = (lmN C n))) ∧ ((((cut n) ≤ (cut n)) ∧ (∀ e5 : E, ((0 ≤ e5.den ∧ e5.den < (cut n)) → (((C (e5.den))) = ((C (e5.den))))))) ∧ (((lmN C n) ≤ (anN C (cut n) (amP C (cut n) 0) 6)) ∧ (∀ e4 : E, ((0 ≤ e4.den ∧ e4.den < (lmN C n)) → (((anX C (cut n) (amP C (cut n) 0) 6 (e4.den)) = (lmX C n e4.den)) ∧ ((anY C (cut n) (amP C (cut n) 0) 6 (e4.den)) = (lmY C n e4.den)))))))))))))) (by kernel_rfl) ?_
  intro h1 h2
  have hr := amP_bd C (cut n) 0
  refine ⟨rfl, ⟨Int.le_refl _, fun _ => fun _ => rfl⟩, ⟨⟨rfl, rfl⟩, ⟨Int.le_refl _, fun _ => fun _ => rfl⟩⟩, rfl, ?_, ?_, ⟨Int.le_refl _, fun _ => fun _ => rfl⟩, ?_, ?_⟩
  · refine ⟨?_, Int.le_refl _, fun _ => fun _ => rfl⟩
    refine ⟨rfl, rfl, ?_⟩
    intro c7
    -- 1: 0 ≤ (amP C (cut n) 0) ∧ (amP C (cut n) 0) ≤ 9998000
    first | rfl | omega | exact Int.le_refl _
  · refine ⟨?_, ?_⟩
    · refine ⟨?_, ?_, ?_, ?_⟩
        -- 2: (amA C (cut n) 0) = (ma C n)
      · first | rfl | omega | exact Int.le_refl _
        -- 3: (rmB C (cut n) 0) = (mb C n)
      · first | rfl | omega | exact Int.le_refl _
        -- 4: (rmC C (cut n) 0) = (mc C n)
      · first | rfl | omega | exact Int.le_refl _
        -- 5: (amD C (cut n) 0) = (md C n)
      · first | rfl | omega | exact Int.le_refl _
      -- 6: (anN C (cut n) (amP C (cut n) 0) 6) = (lmN C n)
    · first | rfl | omega | exact Int.le_refl _
    -- 7: (lmN C n) ≤ (anN C (cut n) (amP C (cut n) 0) 6)
  · first | rfl | omega | exact Int.le_refl _
  · intro e4
    intro c8
    refine ⟨?_, ?_⟩
      -- 8: (anX C (cut n) (amP C (cut n) 0) 6 (e4.den)) = (lmX C n e4.den)
    · first | rfl | omega | exact Int.le_refl _
      -- 9: (anY C (cut n) (amP C (cut n) 0) 6 (e4.den)) = (lmY C n e4.den)
    · first | rfl | omega | exact Int.le_refl _
def c_s_DrawMapPoints (C : Int → Int) (n : Int) : Cn Try.prog := ⟨_, _, _, _, _, s_DrawMapPoints C n⟩
theorem i_Determinant (mA : Int) (mB : Int) (mC : Int) (mD : Int) : RunsTo Try.prog 38 [(.agg [(.int .i64 (.v fun _ => mA) (-1001) 1001), (.int .i64 (.v fun _ => mB) (-1001) 1001), (.int .i64 (.v fun _ => mC) (-1001) 1001), (.int .i64 (.v fun _ => mD) (-1001) 1001)])] [] (.int .i64 (.v fun _ => detM mA mB mC mD) (-2004002) 2004002) [] := by
  refine RunsTo.go env Try.func38 rfl Try.call38 rfl rfl (fun _ _ => (.call (c_i_Matrix_valid mA mB mC mD) (.ite .ret .ret))) (G := (((-1001) ≤ mA ∧ mA ≤ 1001) ∧ (((-1001) ≤ mB ∧ mB ≤ 1001) ∧ (((-1001) ≤ mC ∧ mC ≤ 1001) ∧ ((-1001) ≤ mD ∧ mD ≤ 1001)))) → (True) → (((mA = mA) ∧ ((mB = mB) ∧ ((mC = mC) ∧ (mD = mD)))) ∧ ((((okM mA mB mC mD) = false) → ((0 : Int) = (detM mA mB mC mD))) ∧ (((okM mA mB mC mD) = true) → (((mA * mD) - (mB * mC)) = (detM mA mB mC mD)))))) (by kernel_rfl) ?_
  intro h1 h2
  refine ⟨⟨rfl, ⟨rfl, ⟨rfl, rfl⟩⟩⟩, ?_, ?_⟩
  · intro c1
    -- 1: (0 : Int) = (detM mA mB mC mD)
    first | rfl | omega | (have hm := okM_iff.1 (by assumption : okM mA mB mC mD = true); omega) | (simp_all [detM]; done)
  · intro c2
    -- 2: ((mA * mD) - (mB * mC)) = (detM mA mB mC mD)
    first | rfl | omega | (have hm := okM_iff.1 (by assumption : okM mA mB mC mD = true); omega) | (simp_all [detM]; done)
def c_i_Determinant (mA : Int) (mB : Int) (mC : Int) (mD : Int) : Cn Try.prog := ⟨_, _, _, _, _, i_Determinant mA mB mC mD⟩
theorem i_InvertMatrix (mA : Int) (mB : Int) (mC : Int) (mD : Int) : RunsTo Try.prog 16 [(.agg [(.int .i64 (.v fun _ => mA) (-1001) 1001), (.int .i64 (.v fun _ => mB) (-1001) 1001), (.int .i64 (.v fun _ => mC) (-1001) 1001), (.int .i64 (.v fun _ => mD) (-1001) 1001)])] [] (.tup [(.agg [(.int .i64 (.v fun _ => iv mA mB mC mD (detM mA mB mC mD * mD)) (-2007000000) 2007000000), (.int .i64 (.v fun _ => iv mA mB mC mD ((0 - detM mA mB mC mD) * mB)) (-2007000000) 2007000000), (.int .i64 (.v fun _ => iv mA mB mC mD ((0 - detM mA mB mC mD) * mC)) (-2007000000) 2007000000), (.int .i64 (.v fun _ => iv mA mB mC mD (detM mA mB mC mD * mA)) (-2007000000) 2007000000)]), (.bool (.v fun _ => ivB mA mB mC mD))]) [] := by
  refine RunsTo.go env Try.func16 rfl Try.call16 rfl rfl (fun _ _ => (.call (c_i_Determinant mA mB mC mD) (.ite (.ite .ret .ret) .ret))) (G := (((-1001) ≤ mA ∧ mA ≤ 1001) ∧ (((-1001) ≤ mB ∧ mB ≤ 1001) ∧ (((-1001) ≤ mC ∧ mC ≤ 1001) ∧ ((-1001) ≤ mD ∧ mD ≤ 1001)))) → (True) → (((mA = mA) ∧ ((mB = mB) ∧ ((mC = mC) ∧ (mD = mD)))) ∧ ((((detM mA mB mC mD) ≠ 1) → ((((detM mA mB mC mD) ≠ (-1)) → ((((0 : Int) = (iv mA mB mC mD (detM mA mB mC mD * mD))) ∧ (((0 : Int) = (iv mA mB mC mD ((0 - detM mA mB mC mD) * mB))) ∧ (((0 : Int) = (iv mA mB mC mD ((0 - detM mA mB mC mD) * mC))) ∧ ((0 : Int) = (iv mA mB mC mD (detM mA mB mC mD * mA)))))) ∧ ((ivB mA mB mC mD) = false))) ∧ (((detM mA mB mC mD) = (-1)) → (((((detM mA mB mC mD) * mD) = (iv mA mB mC mD (detM mA mB mC mD * mD))) ∧ ((((0 - (detM mA mB mC mD)) * mB) = (iv mA mB mC mD ((0 - detM mA mB mC mD) * mB))) ∧ ((((0 - (detM mA mB mC mD)) * mC) = (iv mA mB mC mD ((0 - detM mA mB mC mD) * mC))) ∧ (((detM mA mB mC mD) * mA) = (iv mA mB mC mD (detM mA mB mC mD * mA)))))) ∧ ((ivB mA mB mC mD) = true))))) ∧ (((detM mA mB mC mD) = 1) → (((((detM mA mB mC mD) * mD) = (iv mA mB mC mD (detM mA mB mC mD * mD))) ∧ ((((0 - (detM mA mB mC mD)) * mB) = (iv mA mB mC mD ((0 - detM mA mB mC mD) * mB))) ∧ ((((0 - (detM mA mB mC mD)) * mC) = (iv mA mB mC mD ((0 - detM mA mB mC mD) * mC))) ∧ (((detM mA mB mC mD) * mA) = (iv mA mB mC mD (detM mA mB mC mD * mA)))))) ∧ ((ivB mA mB mC mD) = true)))))) (by kernel_rfl) ?_
  intro h1 h2
  refine ⟨⟨rfl, ⟨rfl, ⟨rfl, rfl⟩⟩⟩, ?_, ?_⟩
  · intro c1
    refine ⟨?_, ?_⟩
    · intro c2
      refine ⟨?_, ?_⟩
      · refine ⟨?_, ?_, ?_, ?_⟩
          -- 1: (0 : Int) = (iv mA mB mC mD (detM mA mB mC mD * mD))
        · first | rfl | omega | (simp_all [iv, ivB]; done) | (simp_all [iv, ivB]; omega)
          -- 2: (0 : Int) = (iv mA mB mC mD ((0 - detM mA mB mC mD) * mB))
        · first | rfl | omega | (simp_all [iv, ivB]; done) | (simp_all [iv, ivB]; omega)
          -- 3: (0 : Int) = (iv mA mB mC mD ((0 - detM mA mB mC mD) * mC))
        · first | rfl | omega | (simp_all [iv, ivB]; done) | (simp_all [iv, ivB]; omega)
          -- 4: (0 : Int) = (iv mA mB mC mD (detM mA mB mC mD * mA))
        · first | rfl | omega | (simp_all [iv, ivB]; done) | (simp_all [iv, ivB]; omega)
        -- 5: (ivB mA mB mC mD) = false
      · first | rfl | omega | (simp_all [iv, ivB]; done) | (simp_all [iv, ivB]; omega)
    · intro c3
      refine ⟨?_, ?_⟩
      · refine ⟨?_, ?_, ?_, ?_⟩
          -- 6: ((detM mA mB mC mD) * mD) = (iv mA mB mC mD (detM mA mB mC mD * mD))
        · first | rfl | omega | (simp_all [iv, ivB]; done) | (simp_all [iv, ivB]; omega)
          -- 7: ((0 - (detM mA mB mC mD)) * mB) = (iv mA mB mC mD ((0 - detM mA mB mC mD) * mB))
        · first | rfl | omega | (simp_all [iv, ivB]; done) | (simp_all [iv, ivB]; omega)
          -- 8: ((0 - (detM mA mB mC mD)) * mC) = (iv mA mB mC mD ((0 - detM mA mB mC mD) * mC))
        · first | rfl | omega | (simp_all [iv, ivB]; done) | (simp_all [iv, ivB]; omega)
          -- 9: ((detM mA mB mC mD) * mA) = (iv mA mB mC mD (detM mA mB mC mD * mA))
        · first | rfl | omega | (simp_all [iv, ivB]; done) | (simp_all [iv, ivB]; omega)
        -- 10: (ivB mA mB mC mD) = true
      · first | rfl | omega | (simp_all [iv, ivB]; done) | (simp_all [iv, ivB]; omega)
  · intro c4
    refine ⟨?_, ?_⟩
    · refine ⟨?_, ?_, ?_, ?_⟩
        -- 11: ((detM mA mB mC mD) * mD) = (iv mA mB mC mD (detM mA mB mC mD * mD))
      · first | rfl | omega | (simp_all [iv, ivB]; done) | (simp_all [iv, ivB]; omega)
        -- 12: ((0 - (detM mA mB mC mD)) * mB) = (iv mA mB mC mD ((0 - detM mA mB mC mD) * mB))
      · first | rfl | omega | (simp_all [iv, ivB]; done) | (simp_all [iv, ivB]; omega)
        -- 13: ((0 - (detM mA mB mC mD)) * mC) = (iv mA mB mC mD ((0 - detM mA mB mC mD) * mC))
      · first | rfl | omega | (simp_all [iv, ivB]; done) | (simp_all [iv, ivB]; omega)
        -- 14: ((detM mA mB mC mD) * mA) = (iv mA mB mC mD (detM mA mB mC mD * mA))
      · first | rfl | omega | (simp_all [iv, ivB]; done) | (simp_all [iv, ivB]; omega)
      -- 15: (ivB mA mB mC mD) = true
    · first | rfl | omega | (simp_all [iv, ivB]; done) | (simp_all [iv, ivB]; omega)
def c_i_InvertMatrix (mA : Int) (mB : Int) (mC : Int) (mD : Int) : Cn Try.prog := ⟨_, _, _, _, _, i_InvertMatrix mA mB mC mD⟩
theorem l_equalPoints (X : Int → Int) (Y : Int → Int) (n : Int) (V : Int → Int) (U : Int → Int) (m : Int) : RunsTo Try.prog 17 [(.sl 0 2 (.lit 0) (.v fun _ => n) 1048576), (.sl 1 2 (.lit 0) (.v fun _ => m) 1048576)] [some ⟨48, 2, true, (.sym (.v fun _ => n) fun e => [(.int .i64 (.v fun _ => (X (e.den))) (-9223372036854775808) 9223372036854775807), (.int .i64 (.v fun _ => (Y (e.den))) (-9223372036854775808) 9223372036854775807)])⟩, some ⟨48, 2, true, (.sym (.v fun _ => m) fun e => [(.int .i64 (.v fun _ => (V (e.den))) (-9223372036854775808) 9223372036854775807), (.int .i64 (.v fun _ => (U (e.den))) (-9223372036854775808) 9223372036854775807)])⟩] (.bool (.v fun _ => eqP X Y n V U m)) [some ⟨48, 2, true, (.sym (.v fun _ => n) fun e => [(.int .i64 (.v fun _ => (X (e.den))) (-9223372036854775808) 9223372036854775807), (.int .i64 (.v fun _ => (Y (e.den))) (-9223372036854775808) 9223372036854775807)])⟩, some ⟨48, 2, true, (.sym (.v fun _ => m) fun e => [(.int .i64 (.v fun _ => (V (e.den))) (-9223372036854775808) 9223372036854775807), (.int .i64 (.v fun _ => (U (e.den))) (-9223372036854775808) 9223372036854775807)])⟩] := by
  refine RunsTo.go env Try.func17 rfl Try.call17 rfl rfl (fun _ _ => (.ite .ret (.loop [] [0, 1] (Int) (fun x3 => ⟨spl 26 0 [(0, (.sl 0 2 (.lit 0) (.v fun _ => n) 1048576)), (1, (.sl 1 2 (.lit 0) (.v fun _ => m) 1048576)), (5, (.int .i64 (.v fun _ => x3) 0 1048576))], [some ⟨48, 2, true, (.sym (.v fun _ => n) fun e => [(.int .i64 (.v fun _ => (X (e.den))) (-9223372036854775808) 9223372036854775807), (.int .i64 (.v fun _ => (Y (e.den))) (-9223372036854775808) 9223372036854775807)])⟩, some ⟨48, 2, true, (.sym (.v fun _ => m) fun e => [(.int .i64 (.v fun _ => (V (e.den))) (-9223372036854775808) 9223372036854775807), (.int .i64 (.v fun _ => (U (e.den))) (-9223372036854775808) 9223372036854775807)])⟩], 2⟩) (fun x3 => (0 ≤ x3 ∧ x3 ≤ n) ∧ ∀ i, 0 ≤ i → i < x3 → (decide ((X (i)) = (V (i))) && decide ((Y (i)) = (U (i)))) = true) (fun x3 => (n - x3).toNat) fun x3 => (.ite (.need (.need (.need (.need (.ite (.out .ret) (.next [0, 1])))))) (.out .ret))))) (G := ((0 ≤ n ∧ n ≤ 1048576) ∧ (0 ≤ m ∧ m ≤ 1048576)) → ((∀ e15 : E, ((0 ≤ e15.den ∧ e15.den < n) → (((-9223372036854775808) ≤ ((X (e15.den))) ∧ ((X (e15.den))) ≤ 9223372036854775807) ∧ ((-9223372036854775808) ≤ ((Y (e15.den))) ∧ ((Y (e15.den))) ≤ 9223372036854775807)))) ∧ (∀ e14 : E, ((0 ≤ e14.den ∧ e14.den < m) → (((-9223372036854775808) ≤ ((V (e14.den))) ∧ ((V (e14.den))) ≤ 9223372036854775807) ∧ ((-9223372036854775808) ≤ ((U (e14.den))) ∧ ((U (e14.den))) ≤ 9223372036854775807))))) → (((n ≠ m) → (((eqP X Y n V U m) = false) ∧ (((n ≤ n) ∧ (∀ e2 : E, ((0 ≤ e2.den ∧ e2.den < n) → ((((X (e2.den))) = ((X (e2.den)))) ∧ (((Y (e2.den))) = ((Y (e2.den)))))))) ∧ ((m ≤ m) ∧ (∀ e1 : E, ((0 ≤ e1.den ∧ e1.den < m) → ((((V (e1.den))) = ((V (e1.den)))) ∧ (((U (e1.den))) = ((U (e1.den))))))))))) ∧ ((n = m) → ((∃ y4 : Int, (((0 ≤ y4 ∧ y4 ≤ n) ∧ ∀ i, 0 ≤ i → i < y4 → (decide ((X (i)) = (V (i))) && decide ((Y (i)) = (U (i)))) = true) ∧ (((n = n) ∧ ((m = m) ∧ ((0 : Int) = y4))) ∧ (((n ≤ n) ∧ (∀ e6 : E, ((0 ≤ e6.den ∧ e6.den < n) → ((((X (e6.den))) = ((X (e6.den)))) ∧ (((Y (e6.den))) = ((Y (e6.den)))))))) ∧ ((m ≤ m) ∧ (∀ e5 : E, ((0 ≤ e5.den ∧ e5.den < m) → ((((V (e5.den))) = ((V (e5.den)))) ∧ (((U (e5.den))) = ((U (e5.den)))))))))))) ∧ (∀ x3 : Int, (((0 ≤ x3 ∧ x3 ≤ n) ∧ ∀ i, 0 ≤ i → i < x3 → (decide ((X (i)) = (V (i))) && decide ((Y (i)) = (U (i)))) = true) → (((x3 < n) → ((((0 ≤ x3) ∧ (x3 < n))) ∧ ((x3 < n) ∧ ((((0 ≤ x3) ∧ (x3 < m))) ∧ ((x3 < m) ∧ (((((((X (x3))) ≠ ((V (x3)))) ∨ (((Y (x3))) ≠ ((U (x3)))))) → (((eqP X Y n V U m) = false) ∧ (((n ≤ n) ∧ (∀ e8 : E, ((0 ≤ e8.den ∧ e8.den < n) → ((((X (e8.den))) = ((X (e8.den)))) ∧ (((Y (e8.den))) = ((Y (e8.den)))))))) ∧ ((m ≤ m) ∧ (∀ e7 : E, ((0 ≤ e7.den ∧ e7.den < m) → ((((V (e7.den))) = ((V (e7.den)))) ∧ (((U (e7.den))) = ((U (e7.den))))))))))) ∧ ((((((X (x3))) = ((V (x3)))) ∧ (((Y (x3))) = ((U (x3)))))) → (∃ y9 : Int, (((0 ≤ y9 ∧ y9 ≤ n) ∧ ∀ i, 0 ≤ i → i < y9 → (decide ((X (i)) = (V (i))) && decide ((Y (i)) = (U (i)))) = true) ∧ ((((n = n) ∧ ((m = m) ∧ (((x3 + 1) = y9) ∧ ((1 ≤ (x3 + 1) ∧ (x3 + 1) ≤ 1048577) → (0 ≤ y9 ∧ y9 ≤ 1048576))))) ∧ (((n ≤ n) ∧ (∀ e11 : E, ((0 ≤ e11.den ∧ e11.den < n) → ((((X (e11.den))) = ((X (e11.den)))) ∧ (((Y (e11.den))) = ((Y (e11.den)))))))) ∧ ((m ≤ m) ∧ (∀ e10 : E, ((0 ≤ e10.den ∧ e10.den < m) → ((((V (e10.den))) = ((V (e10.den)))) ∧ (((U (e10.den))) = ((U (e10.den)))))))))) ∧ ((n - y9).toNat < (n - x3).toNat))))))))))) ∧ ((n ≤ x3) → (((eqP X Y n V U m) = true) ∧ (((n ≤ n) ∧ (∀ e13 : E, ((0 ≤ e13.den ∧ e13.den < n) → ((((X (e13.den))) = ((X (e13.den)))) ∧ (((Y (e13.den))) = ((Y (e13.den)))))))) ∧ ((m ≤ m) ∧ (∀ e12 : E, ((0 ≤ e12.den ∧ e12.den < m) → ((((V (e12.den))) = ((V (e12.den)))) ∧ (((U (e12.den))) = ((U (e12.den)))))))))))))))))) (by kernel_rfl) ?_
  intro h1 h2
  refine ⟨?_, ?_⟩
  · intro c16
    refine ⟨?_, ⟨Int.le_refl _, fun _ => fun _ => ⟨rfl, rfl⟩⟩, Int.le_refl _, fun _ => fun _ => ⟨rfl, rfl⟩⟩
    -- 1: (eqP X Y n V U m) = false
    first | rfl | omega | (refine ⟨by omega, fun i a b => ?_⟩; first | (exfalso; omega) | (by_cases e : i = j; (subst e; assumption); exact I1.2 i a (by omega))) | (simp only [eqP]; rw [allB_false (q := fun i => decide (X i = V i) && decide (Y i = U i)) I1.1.1 (by omega) (by assumption)]; simp; done) | (simp only [eqP]; rw [allB_iff.2 fun i a b => I1.2 i a (by omega)]; simp; omega) | (simp [eqP]; omega) | (have hf : (decide (X j = V j) && decide (Y j = U j)) = false := (by rw [← Bool.not_eq_true, Bool.and_eq_true, decide_eq_true_eq, decide_eq_true_eq]; omega); simp only [eqP]; rw [allB_false (q := fun i => decide (X i = V i) && decide (Y i = U i)) I1.1.1 (by omega) hf]; simp; done) | (refine ⟨by omega, fun i a b => ?_⟩; by_cases e : i = j; (subst e; rw [Bool.and_eq_true, decide_eq_true_eq, decide_eq_true_eq]; omega); exact I1.2 i a (by omega)) | fail
  · intro c17
    refine ⟨?_, ?_⟩
    · refine ⟨0, ?_⟩
      try dsimp only
      refine ⟨?_, ?_, ⟨Int.le_refl _, fun _ => fun _ => ⟨rfl, rfl⟩⟩, Int.le_refl _, fun _ => fun _ => ⟨rfl, rfl⟩⟩
        -- 2: (0 ≤ y4 ∧ y4 ≤ n) ∧ ∀ i, 0 ≤ i → i < y4 → (decide ((X (i)) = (V (i))) && decide ((Y (i)) = (U (i))))
      · first | rfl | omega | (refine ⟨by omega, fun i a b => ?_⟩; first | (exfalso; omega) | (by_cases e : i = j; (subst e; assumption); exact I1.2 i a (by omega))) | (simp only [eqP]; rw [allB_false (q := fun i => decide (X i = V i) && decide (Y i = U i)) I1.1.1 (by omega) (by assumption)]; simp; done) | (simp only [eqP]; rw [allB_iff.2 fun i a b => I1.2 i a (by omega)]; simp; omega) | (simp [eqP]; omega) | (have hf : (decide (X j = V j) && decide (Y j = U j)) = false := (by rw [← Bool.not_eq_true, Bool.and_eq_true, decide_eq_true_eq, decide_eq_true_eq]; omega); simp only [eqP]; rw [allB_false (q := fun i => decide (X i = V i) && decide (Y i = U i)) I1.1.1 (by omega) hf]; simp; done) | (refine ⟨by omega, fun i a b => ?_⟩; by_cases e : i = j; (subst e; rw [Bool.and_eq_true, decide_eq_true_eq, decide_eq_true_eq]; omega); exact I1.2 i a (by omega)) | fail
      · refine ⟨rfl, rfl, ?_⟩
        -- 3: (0 : Int) = y4
        first | rfl | omega | (refine ⟨by omega, fun i a b => ?_⟩; first | (exfalso; omega) | (by_cases e : i = j; (subst e; assumption); exact I1.2 i a (by omega))) | (simp only [eqP]; rw [allB_false (q := fun i => decide (X i = V i) && decide (Y i = U i)) I1.1.1 (by omega) (by assumption)]; simp; done) | (simp only [eqP]; rw [allB_iff.2 fun i a b => I1.2 i a (by omega)]; simp; omega) | (simp [eqP]; omega) | (have hf : (decide (X j = V j) && decide (Y j = U j)) = false := (by rw [← Bool.not_eq_true, Bool.and_eq_true, decide_eq_true_eq, decide_eq_true_eq]; omega); simp only [eqP]; rw [allB_false (q := fun i => decide (X i = V i) && decide (Y i = U i)) I1.1.1 (by omega) hf]; simp; done) | (refine ⟨by omega, fun i a b => ?_⟩; by_cases e : i = j; (subst e; rw [Bool.and_eq_true, decide_eq_true_eq, decide_eq_true_eq]; omega); exact I1.2 i a (by omega)) | fail
    · intro j
      intro I1
      refine ⟨?_, ?_⟩
      · intro c18
        refine ⟨?_, ?_, ?_, ?_, ?_, ?_⟩
          -- 4: ((0 ≤ x3) ∧ (x3 < n))
        · first | rfl | omega | (refine ⟨by omega, fun i a b => ?_⟩; first | (exfalso; omega) | (by_cases e : i = j; (subst e; assumption); exact I1.2 i a (by omega))) | (simp only [eqP]; rw [allB_false (q := fun i => decide (X i = V i) && decide (Y i = U i)) I1.1.1 (by omega) (by assumption)]; simp; done) | (simp only [eqP]; rw [allB_iff.2 fun i a b => I1.2 i a (by omega)]; simp; omega) | (simp [eqP]; omega) | (have hf : (decide (X j = V j) && decide (Y j = U j)) = false := (by rw [← Bool.not_eq_true, Bool.and_eq_true, decide_eq_true_eq, decide_eq_true_eq]; omega); simp only [eqP]; rw [allB_false (q := fun i => decide (X i = V i) && decide (Y i = U i)) I1.1.1 (by omega) hf]; simp; done) | (refine ⟨by omega, fun i a b => ?_⟩; by_cases e : i = j; (subst e; rw [Bool.and_eq_true, decide_eq_true_eq, decide_eq_true_eq]; omega); exact I1.2 i a (by omega)) | fail
          -- 5: x3 < n
        · first | rfl | omega | (refine ⟨by omega, fun i a b => ?_⟩; first | (exfalso; omega) | (by_cases e : i = j; (subst e; assumption); exact I1.2 i a (by omega))) | (simp only [eqP]; rw [allB_false (q := fun i => decide (X i = V i) && decide (Y i = U i)) I1.1.1 (by omega) (by assumption)]; simp; done) | (simp only [eqP]; rw [allB_iff.2 fun i a b => I1.2 i a (by omega)]; simp; omega) | (simp [eqP]; omega) | (have hf : (decide (X j = V j) && decide (Y j = U j)) = false := (by rw [← Bool.not_eq_true, Bool.and_eq_true, decide_eq_true_eq, decide_eq_true_eq]; omega); simp only [eqP]; rw [allB_false (q := fun i => decide (X i = V i) && decide (Y i = U i)) I1.1.1 (by omega) hf]; simp; done) | (refine ⟨by omega, fun i a b => ?_⟩; by_cases e : i = j; (subst e; rw [Bool.and_eq_true, decide_eq_true_eq, decide_eq_true_eq]; omega); exact I1.2 i a (by omega)) | fail
          -- 6: ((0 ≤ x3) ∧ (x3 < m))
        · first | rfl | omega | (refine ⟨by omega, fun i a b => ?_⟩; first | (exfalso; omega) | (by_cases e : i = j; (subst e; assumption); exact I1.2 i a (by omega))) | (simp only [eqP]; rw [allB_false (q := fun i => decide (X i = V i) && decide (Y i = U i)) I1.1.1 (by omega) (by assumption)]; simp; done) | (simp only [eqP]; rw [allB_iff.2 fun i a b => I1.2 i a (by omega)]; simp; omega) | (simp [eqP]; omega) | (have hf : (decide (X j = V j) && decide (Y j = U j)) = false := (by rw [← Bool.not_eq_true, Bool.and_eq_true, decide_eq_true_eq, decide_eq_true_eq]; omega); simp only [eqP]; rw [allB_false (q := fun i => decide (X i = V i) && decide (Y i = U i)) I1.1.1 (by omega) hf]; simp; done) | (refine ⟨by omega, fun i a b => ?_⟩; by_cases e : i = j; (subst e; rw [Bool.and_eq_true, decide_eq_true_eq, decide_eq_true_eq]; omega); exact I1.2 i a (by omega)) | fail
          -- 7: x3 < m
        · first | rfl | omega | (refine ⟨by omega, fun i a b => ?_⟩; first | (exfalso; omega) | (by_cases e : i = j; (subst e; assumption); exact I1.2 i a (by omega))) | (simp only [eqP]; rw [allB_false (q := fun i => decide (X i = V i) && decide (Y i = U i)) I1.1.1 (by omega) (by assumption)]; simp; done) | (simp only [eqP]; rw [allB_iff.2 fun i a b => I1.2 i a (by omega)]; simp; omega) | (simp [eqP]; omega) | (have hf : (decide (X j = V j) && decide (Y j = U j)) = false := (by rw [← Bool.not_eq_true, Bool.and_eq_true, decide_eq_true_eq, decide_eq_true_eq]; omega); simp only [eqP]; rw [allB_false (q := fun i => decide (X i = V i) && decide (Y i = U i)) I1.1.1 (by omega) hf]; simp; done) | (refine ⟨by omega, fun i a b => ?_⟩; by_cases e : i = j; (subst e; rw [Bool.and_eq_true, decide_eq_true_eq, decide_eq_true_eq]; omega); exact I1.2 i a (by omega)) | fail
        · intro c19
          refine ⟨?_, ⟨Int.le_refl _, fun _ => fun _ => ⟨rfl, rfl⟩⟩, Int.le_refl _, fun _ => fun _ => ⟨rfl, rfl⟩⟩
          -- 8: (eqP X Y n V U m) = false
          first | rfl | omega | (refine ⟨by omega, fun i a b => ?_⟩; first | (exfalso; omega) | (by_cases e : i = j; (subst e; assumption); exact I1.2 i a (by omega))) | (simp only [eqP]; rw [allB_false (q := fun i => decide (X i = V i) && decide (Y i = U i)) I1.1.1 (by omega) (by assumption)]; simp; done) | (simp only [eqP]; rw [allB_iff.2 fun i a b => I1.2 i a (by omega)]; simp; omega) | (simp [eqP]; omega) | (have hf : (decide (X j = V j) && decide (Y j = U j)) = false := (by rw [← Bool.not_eq_true, Bool.and_eq_true, decide_eq_true_eq, decide_eq_true_eq]; omega); simp only [eqP]; rw [allB_false (q := fun i => decide (X i = V i) && decide (Y i = U i)) I1.1.1 (by omega) hf]; simp; done) | (refine ⟨by omega, fun i a b => ?_⟩; by_cases e : i = j; (subst e; rw [Bool.and_eq_true, decide_eq_true_eq, decide_eq_true_eq]; omega); exact I1.2 i a (by omega)) | fail
        · intro c20
          refine ⟨j + 1, ?_⟩
          try dsimp only
          refine ⟨?_, ?_, ?_⟩
            -- 9: (0 ≤ y9 ∧ y9 ≤ n) ∧ ∀ i, 0 ≤ i → i < y9 → (decide ((X (i)) = (V (i))) && decide ((Y (i)) = (U (i))))
          · first | rfl | omega | (refine ⟨by omega, fun i a b => ?_⟩; first | (exfalso; omega) | (by_cases e : i = j; (subst e; assumption); exact I1.2 i a (by omega))) | (simp only [eqP]; rw [allB_false (q := fun i => decide (X i = V i) && decide (Y i = U i)) I1.1.1 (by omega) (by assumption)]; simp; done) | (simp only [eqP]; rw [allB_iff.2 fun i a b => I1.2 i a (by omega)]; simp; omega) | (simp [eqP]; omega) | (have hf : (decide (X j = V j) && decide (Y j = U j)) = false := (by rw [← Bool.not_eq_true, Bool.and_eq_true, decide_eq_true_eq, decide_eq_true_eq]; omega); simp only [eqP]; rw [allB_false (q := fun i => decide (X i = V i) && decide (Y i = U i)) I1.1.1 (by omega) hf]; simp; done) | (refine ⟨by omega, fun i a b => ?_⟩; by_cases e : i = j; (subst e; rw [Bool.and_eq_true, decide_eq_true_eq, decide_eq_true_eq]; omega); exact I1.2 i a (by omega)) | fail
          · refine ⟨?_, ⟨Int.le_refl _, fun _ => fun _ => ⟨rfl, rfl⟩⟩, Int.le_refl _, fun _ => fun _ => ⟨rfl, rfl⟩⟩
            refine ⟨rfl, rfl, ?_, ?_⟩
              -- 10: (x3 + 1) = y9
            · first | rfl | omega | (refine ⟨by omega, fun i a b => ?_⟩; first | (exfalso; omega) | (by_cases e : i = j; (subst e; assumption); exact I1.2 i a (by omega))) | (simp only [eqP]; rw [allB_false (q := fun i => decide (X i = V i) && decide (Y i = U i)) I1.1.1 (by omega) (by assumption)]; simp; done) | (simp only [eqP]; rw [allB_iff.2 fun i a b => I1.2 i a (by omega)]; simp; omega) | (simp [eqP]; omega) | (have hf : (decide (X j = V j) && decide (Y j = U j)) = false := (by rw [← Bool.not_eq_true, Bool.and_eq_true, decide_eq_true_eq, decide_eq_true_eq]; omega); simp only [eqP]; rw [allB_false (q := fun i => decide (X i = V i) && decide (Y i = U i)) I1.1.1 (by omega) hf]; simp; done) | (refine ⟨by omega, fun i a b => ?_⟩; by_cases e : i = j; (subst e; rw [Bool.and_eq_true, decide_eq_true_eq, decide_eq_true_eq]; omega); exact I1.2 i a (by omega)) | fail
            · intro c21
              -- 11: 0 ≤ y9 ∧ y9 ≤ 1048576
              first | rfl | omega | (refine ⟨by omega, fun i a b => ?_⟩; first | (exfalso; omega) | (by_cases e : i = j; (subst e; assumption); exact I1.2 i a (by omega))) | (simp only [eqP]; rw [allB_false (q := fun i => decide (X i = V i) && decide (Y i = U i)) I1.1.1 (by omega) (by assumption)]; simp; done) | (simp only [eqP]; rw [allB_iff.2 fun i a b => I1.2 i a (by omega)]; simp; omega) | (simp [eqP]; omega) | (have hf : (decide (X j = V j) && decide (Y j = U j)) = false := (by rw [← Bool.not_eq_true, Bool.and_eq_true, decide_eq_true_eq, decide_eq_true_eq]; omega); simp only [eqP]; rw [allB_false (q := fun i => decide (X i = V i) && decide (Y i = U i)) I1.1.1 (by omega) hf]; simp; done) | (refine ⟨by omega, fun i a b => ?_⟩; by_cases e : i = j; (subst e; rw [Bool.and_eq_true, decide_eq_true_eq, decide_eq_true_eq]; omega); exact I1.2 i a (by omega)) | fail
            -- 12: (n - y9).toNat < (n - x3).toNat
          · first | rfl | omega | (refine ⟨by omega, fun i a b => ?_⟩; first | (exfalso; omega) | (by_cases e : i = j; (subst e; assumption); exact I1.2 i a (by omega))) | (simp only [eqP]; rw [allB_false (q := fun i => decide (X i = V i) && decide (Y i = U i)) I1.1.1 (by omega) (by assumption)]; simp; done) | (simp only [eqP]; rw [allB_iff.2 fun i a b => I1.2 i a (by omega)]; simp; omega) | (simp [eqP]; omega) | (have hf : (decide (X j = V j) && decide (Y j = U j)) = false := (by rw [← Bool.not_eq_true, Bool.and_eq_true, decide_eq_true_eq, decide_eq_true_eq]; omega); simp only [eqP]; rw [allB_false (q := fun i => decide (X i = V i) && decide (Y i = U i)) I1.1.1 (by omega) hf]; simp; done) | (refine ⟨by omega, fun i a b => ?_⟩; by_cases e : i = j; (subst e; rw [Bool.and_eq_true, decide_eq_true_eq, decide_eq_true_eq]; omega); exact I1.2 i a (by omega)) | fail
      · intro c22
        refine ⟨?_, ⟨Int.le_refl _, fun _ => fun _ => ⟨rfl, rfl⟩⟩, Int.le_refl _, fun _ => fun _ => ⟨rfl, rfl⟩⟩
        -- 13: (eqP X Y n V U m) = true
        first | rfl | omega | (refine ⟨by omega, fun i a b => ?_⟩; first | (exfalso; omega) | (by_cases e : i = j; (subst e; assumption); exact I1.2 i a (by omega))) | (simp only [eqP]; rw [allB_false (q := fun i => decide (X i = V i) && decide (Y i = U i)) I1.1.1 (by omega) (by assumption)]; simp; done) | (simp only [eqP]; rw [allB_iff.2 fun i a b => I1.2 i a (by omega)]; simp; omega) | (simp [eqP]; omega) | (have hf : (decide (X j = V j) && decide (Y j = U j)) = false := (by rw [← Bool.not_eq_true, Bool.and_eq_true, decide_eq_true_eq, decide_eq_true_eq]; omega); simp only [eqP]; rw [allB_false (q := fun i => decide (X i = V i) && decide (Y i = U i)) I1.1.1 (by omega) hf]; simp; done) | (refine ⟨by omega, fun i a b => ?_⟩; by_cases e : i = j; (subst e; rw [Bool.and_eq_true, decide_eq_true_eq, decide_eq_true_eq]; omega); exact I1.2 i a (by omega)) | fail
def c_l_equalPoints (X : Int → Int) (Y : Int → Int) (n : Int) (V : Int → Int) (U : Int → Int) (m : Int) : Cn Try.prog := ⟨_, _, _, _, _, l_equalPoints X Y n V U m⟩
theorem inv_law {X Y : Int → Int} {n a b c d : Int} (h : mpB X Y n a b c d = true) (h2 : ivB a b c d = true) :
    mpN X Y n a b c d = n ∧ mpB (mpf X Y a b) (mpf X Y c d) n (iv a b c d (detM a b c d * d)) (iv a b c d ((0 - detM a b c d) * b)) (iv a b c d ((0 - detM a b c d) * c)) (iv a b c d (detM a b c d * a)) = true ∧ mpN (mpf X Y a b) (mpf X Y c d) n (iv a b c d (detM a b c d * d)) (iv a b c d ((0 - detM a b c d) * b)) (iv a b c d ((0 - detM a b c d) * c)) (iv a b c d (detM a b c d * a)) = n ∧ eqP (mpf (mpf X Y a b) (mpf X Y c d) (iv a b c d (detM a b c d * d)) (iv a b c d ((0 - detM a b c d) * b))) (mpf (mpf X Y a b) (mpf X Y c d) (iv a b c d ((0 - detM a b c d) * c)) (iv a b c d (detM a b c d * a))) n X Y n = true := by
  have hp := h
  simp only [mpB, Bool.and_eq_true] at hp
  obtain ⟨⟨hm, hl⟩, hl2⟩ := hp
  have om := okM_iff.1 hm
  have hd : detM a b c d = a * d - b * c := by unfold detM; rw [if_pos hm]
  have hs : detM a b c d = 1 ∨ detM a b c d = -1 := by
    unfold ivB at h2
    simpa only [Bool.or_eq_true, decide_eq_true_eq] using h2
  have ei : ∀ x, iv a b c d x = x := fun x => by unfold iv; rw [if_pos h2]
  rw [ei, ei, ei, ei]
  have hn : mpN X Y n a b c d = n := by unfold mpN; rw [if_pos h]
  have key : ∀ i, mpf (mpf X Y a b) (mpf X Y c d) (detM a b c d * d) ((0 - detM a b c d) * b) i = X i ∧ mpf (mpf X Y a b) (mpf X Y c d) ((0 - detM a b c d) * c) (detM a b c d * a) i = Y i := by
    intro i
    unfold mpf
    generalize X i = x
    generalize Y i = y
    have e1 : detM a b c d * d * (a * x + b * y) + (0 - detM a b c d) * b * (c * x + d * y) = detM a b c d * (a * d - b * c) * x := by grind
    have e2 : (0 - detM a b c d) * c * (a * x + b * y) + detM a b c d * a * (c * x + d * y) = detM a b c d * (a * d - b * c) * y := by grind
    rw [e1, e2, ← hd]
    rcases hs with e | e <;> rw [e] <;> omega
  have k1 : mpf (mpf X Y a b) (mpf X Y c d) (detM a b c d * d) ((0 - detM a b c d) * b) = X := funext fun i => (key i).1
  have k2 : mpf (mpf X Y a b) (mpf X Y c d) ((0 - detM a b c d) * c) (detM a b c d * a) = Y := funext fun i => (key i).2
  have ho : okM (detM a b c d * d) ((0 - detM a b c d) * b) ((0 - detM a b c d) * c) (detM a b c d * a) = true := by
    rw [okM_iff]
    rcases hs with e | e <;> rw [e] <;> omega
  have hB : mpB (mpf X Y a b) (mpf X Y c d) n (detM a b c d * d) ((0 - detM a b c d) * b) ((0 - detM a b c d) * c) (detM a b c d * a) = true := by
    unfold mpB
    rw [k1, k2, ho, hl, hl2]
    rfl
  refine ⟨hn, hB, ?_, ?_⟩
  · unfold mpN; rw [if_pos hB]
  · rw [k1, k2]; exact eqP_refl X Y n
theorem l_FnMapPoints (C : Int → Int) (n : Int) : RunsTo Try.prog 4 [(.sl 0 1 (.lit 0) (.v fun _ => n) 9223372036854775807)] [some ⟨5, 1, false, (.sym (.v fun _ => n) fun e => [(.int .u8 (.v fun _ => (C (e.den))) 0 255)])⟩] (.bool (.lit true)) [none] := by
  refine RunsTo.go env Try.func4 rfl Try.call4 rfl rfl (fun _ _ => (.ite .ret (.callF (c_s_DrawMapPoints C n) (.callF (c_i_MapPoints (ma C n) (mb C n) (mc C n) (md C n) (lmX C n) (lmY C n) (lmN C n)) (.callF (c_s_MapPoints (ma C n) (mb C n) (mc C n) (md C n) (lmX C n) (lmY C n) (lmN C n)) (.callF (c_i_InvertMatrix (ma C n) (mb C n) (mc C n) (md C n)) (.ite (.ite (.call (c_l_equalPoints (mpf (lmX C n) (lmY C n) (ma C n) (mb C n)) (mpf (lmX C n) (lmY C n) (mc C n) (md C n)) (mpN (lmX C n) (lmY C n) (lmN C n) (ma C n) (mb C n) (mc C n) (md C n)) (mpf (lmX C n) (lmY C n) (ma C n) (mb C n)) (mpf (lmX C n) (lmY C n) (mc C n) (md C n)) (mpN (lmX C n) (lmY C n) (lmN C n) (ma C n) (mb C n) (mc C n) (md C n))) .ret) .ret) (.call (c_l_equalPoints (mpf (lmX C n) (lmY C n) (ma C n) (mb C n)) (mpf (lmX C n) (lmY C n) (mc C n) (md C n)) (mpN (lmX C n) (lmY C n) (lmN C n) (ma C n) (mb C n) (mc C n) (md C n)) (mpf (lmX C n) (lmY C n) (ma C n) (mb C n)) (mpf (lmX C n) (lmY C n) (mc C n) (md C n)) (mpN (lmX C n) (lmY C n) (lmN C n) (ma C n) (mb C n) (mc C n) (md C n))) (.ite (.ite (.call (c_l_equalPoints (mpf (lmX C n) (lmY C n) (ma C n) (mb C n)) (mpf (lmX C n) (lmY C n) (mc C n) (md C n)) (mpN (lmX C n) (lmY C n) (lmN C n) (ma C n) (mb C n) (mc C n) (md C n)) (mpf (lmX C n) (lmY C n) (ma C n) (mb C n)) (mpf (lmX C n) (lmY C n) (mc C n) (md C n)) (mpN (lmX C n) (lmY C n) (lmN C n) (ma C n) (mb C n) (mc C n) (md C n))) .ret) .ret) (.ite (.ite (.call (c_l_equalPoints (mpf (lmX C n) (lmY C n) (ma C n) (mb C n)) (mpf (lmX C n) (lmY C n) (mc C n) (md C n)) (mpN (lmX C n) (lmY C n) (lmN C n) (ma C n) (mb C n) (mc C n) (md C n)) (mpf (lmX C n) (lmY C n) (ma C n) (mb C n)) (mpf (lmX C n) (lmY C n) (mc C n) (md C n)) (mpN (lmX C n) (lmY C n) (lmN C n) (ma C n) (mb C n) (mc C n) (md C n))) .ret) .ret) (.ite (.ite (.call (c_l_equalPoints (mpf (lmX C n) (lmY C n) (ma C n) (mb C n)) (mpf (lmX C n) (lmY C n) (mc C n) (md C n)) (mpN (lmX C n) (lmY C n) (lmN C n) (ma C n) (mb C n) (mc C n) (md C n)) (mpf (lmX C n) (lmY C n) (ma C n) (mb C n)) (mpf (lmX C n) (lmY C n) (mc C n) (md C n)) (mpN (lmX C n) (lmY C n) (lmN C n) (ma C n) (mb C n) (mc C n) (md C n))) .ret) .ret) (.callF (c_i_MapPoints (iv (ma C n) (mb C n) (mc C n) (md C n) (detM (ma C n) (mb C n) (mc C n) (md C n) * (md C n))) (iv (ma C n) (mb C n) (mc C n) (md C n) ((0 - detM (ma C n) (mb C n) (mc C n) (md C n)) * (mb C n))) (iv (ma C n) (mb C n) (mc C n) (md C n) ((0 - detM (ma C n) (mb C n) (mc C n) (md C n)) * (mc C n))) (iv (ma C n) (mb C n) (mc C n) (md C n) (detM (ma C n) (mb C n) (mc C n) (md C n) * (ma C n))) (mpf (lmX C n) (lmY C n) (ma C n) (mb C n)) (mpf (lmX C n) (lmY C n) (mc C n) (md C n)) (mpN (lmX C n) (lmY C n) (lmN C n) (ma C n) (mb C n) (mc C n) (md C n))) (.ite (.call (c_l_equalPoints ((fun ι => mpf (mpf (lmX C n) (lmY C n) (ma C n) (mb C n)) (mpf (lmX C n) (lmY C n) (mc C n) (md C n)) (iv (ma C n) (mb C n) (mc C n) (md C n) (detM (ma C n) (mb C n) (mc C n) (md C n) * (md C n))) (iv (ma C n) (mb C n) (mc C n) (md C n) ((0 - detM (ma C n) (mb C n) (mc C n) (md C n)) * (mb C n))) (ι))) ((fun ι => mpf (mpf (lmX C n) (lmY C n) (ma C n) (mb C n)) (mpf (lmX C n) (lmY C n) (mc C n) (md C n)) (iv (ma C n) (mb C n) (mc C n) (md C n) ((0 - detM (ma C n) (mb C n) (mc C n) (md C n)) * (mc C n))) (iv (ma C n) (mb C n) (mc C n) (md C n) (detM (ma C n) (mb C n) (mc C n) (md C n) * (ma C n))) (ι))) (mpN (mpf (lmX C n) (lmY C n) (ma C n) (mb C n)) (mpf (lmX C n) (lmY C n) (mc C n) (md C n)) (mpN (lmX C n) (lmY C n) (lmN C n) (ma C n) (mb C n) (mc C n) (md C n)) (iv (ma C n) (mb C n) (mc C n) (md C n) (detM (ma C n) (mb C n) (mc C n) (md C n) * (md C n))) (iv (ma C n) (mb C n) (mc C n) (md C n) ((0 - detM (ma C n) (mb C n) (mc C n) (md C n)) * (mb C n))) (iv (ma C n) (mb C n) (mc C n) (md C n) ((0 - detM (ma C n) (mb C n) (mc C n) (md C n)) * (mc C n))) (iv (ma C n) (mb C n) (mc C n) (md C n) (detM (ma C n) (mb C n) (mc C n) (md C n) * (ma C n)))) (lmX C n) (lmY C n) (lmN C n)) .ret) .ret))))))))))))) (G := (0 ≤ n ∧ n ≤ 9223372036854775807) → (∀ e17 : E, ((0 ≤ e17.den ∧ e17.den < n) → (0 ≤ ((C (e17.den))) ∧ ((C (e17.den))) ≤ 255))) → ((n ≤ 1048576) → ((n = n) ∧ (((n ≤ n) ∧ (∀ e1 : E, ((0 ≤ e1.den ∧ e1.den < n) → (((C (e1.den))) = ((C (e1.den))))))) ∧ (((((-1001) ≤ (ma C n) ∧ (ma C n) ≤ 1001) ∧ (((-1001) ≤ (mb C n) ∧ (mb C n) ≤ 1001) ∧ (((-1001) ≤ (mc C n) ∧ (mc C n) ≤ 1001) ∧ ((-1001) ≤ (md C n) ∧ (md C n) ≤ 1001)))) ∧ (0 ≤ (lmN C n) ∧ (lmN C n) ≤ 64)) → (((((ma C n) = (ma C n)) ∧ (((mb C n) = (mb C n)) ∧ (((mc C n) = (mc C n)) ∧ ((md C n) = (md C n))))) ∧ ((lmN C n) = (lmN C n))) ∧ ((((lmN C n) ≤ (lmN C n)) ∧ (∀ e2 : E, ((0 ≤ e2.den ∧ e2.den < (lmN C n)) → (((lmX C n (e2.den)) = (lmX C n ((e2.den)))) ∧ ((lmY C n (e2.den)) = (lmY C n ((e2.den)))))))) ∧ ((0 ≤ (mpN (lmX C n) (lmY C n) (lmN C n) (ma C n) (mb C n) (mc C n) (md C n)) ∧ (mpN (lmX C n) (lmY C n) (lmN C n) (ma C n) (mb C n) (mc C n) (md C n)) ≤ 1048576) → (((((ma C n) = (ma C n)) ∧ (((mb C n) = (mb C n)) ∧ (((mc C n) = (mc C n)) ∧ ((md C n) = (md C n))))) ∧ ((lmN C n) = (lmN C n))) ∧ ((((lmN C n) ≤ (lmN C n)) ∧ (∀ e3 : E, ((0 ≤ e3.den ∧ e3.den < (lmN C n)) → (((lmX C n ((e3.den))) = (((lmX C n (((e3.den))))))) ∧ ((lmY C n ((e3.den))) = (((lmY C n (((e3.den))))))))))) ∧ ((0 ≤ (mpN (lmX C n) (lmY C n) (lmN C n) (ma C n) (mb C n) (mc C n) (md C n)) ∧ (mpN (lmX C n) (lmY C n) (lmN C n) (ma C n) (mb C n) (mc C n) (md C n)) ≤ 1048576) → ((((ma C n) = (ma C n)) ∧ (((mb C n) = (mb C n)) ∧ (((mc C n) = (mc C n)) ∧ ((md C n) = (md C n))))) ∧ ((((-2007000000) ≤ (iv (ma C n) (mb C n) (mc C n) (md C n) (detM (ma C n) (mb C n) (mc C n) (md C n) * (md C n))) ∧ (iv (ma C n) (mb C n) (mc C n) (md C n) (detM (ma C n) (mb C n) (mc C n) (md C n) * (md C n))) ≤ 2007000000) ∧ (((-2007000000) ≤ (iv (ma C n) (mb C n) (mc C n) (md C n) ((0 - detM (ma C n) (mb C n) (mc C n) (md C n)) * (mb C n))) ∧ (iv (ma C n) (mb C n) (mc C n) (md C n) ((0 - detM (ma C n) (mb C n) (mc C n) (md C n)) * (mb C n))) ≤ 2007000000) ∧ (((-2007000000) ≤ (iv (ma C n) (mb C n) (mc C n) (md C n) ((0 - detM (ma C n) (mb C n) (mc C n) (md C n)) * (mc C n))) ∧ (iv (ma C n) (mb C n) (mc C n) (md C n) ((0 - detM (ma C n) (mb C n) (mc C n) (md C n)) * (mc C n))) ≤ 2007000000) ∧ ((-2007000000) ≤ (iv (ma C n) (mb C n) (mc C n) (md C n) (detM (ma C n) (mb C n) (mc C n) (md C n) * (ma C n))) ∧ (iv (ma C n) (mb C n) (mc C n) (md C n) (detM (ma C n) (mb C n) (mc C n) (md C n) * (ma C n))) ≤ 2007000000)))) → ((((((mpB (lmX C n) (lmY C n) (lmN C n) (ma C n) (mb C n) (mc C n) (md C n)) = true) ↔ ((mpB (lmX C n) (lmY C n) (lmN C n) (ma C n) (mb C n) (mc C n) (md C n)) = false))) → ((((((mpB (lmX C n) (lmY C n) (lmN C n) (ma C n) (mb C n) (mc C n) (md C n)) = true) ↔ ((mpB (lmX C n) (lmY C n) (lmN C n) (ma C n) (mb C n) (mc C n) (md C n)) = true))) → ((((mpN (lmX C n) (lmY C n) (lmN C n) (ma C n) (mb C n) (mc C n) (md C n)) = (mpN (lmX C n) (lmY C n) (lmN C n) (ma C n) (mb C n) (mc C n) (md C n))) ∧ ((mpN (lmX C n) (lmY C n) (lmN C n) (ma C n) (mb C n) (mc C n) (md C n)) = (mpN (lmX C n) (lmY C n) (lmN C n) (ma C n) (mb C n) (mc C n) (md C n)))) ∧ (((((mpN (lmX C n) (lmY C n) (lmN C n) (ma C n) (mb C n) (mc C n) (md C n)) ≤ (mpN (lmX C n) (lmY C n) (lmN C n) (ma C n) (mb C n) (mc C n) (md C n))) ∧ (∀ e5 : E, ((0 ≤ e5.den ∧ e5.den < (mpN (lmX C n) (lmY C n) (lmN C n) (ma C n) (mb C n) (mc C n) (md C n))) → (((mpf (lmX C n) (lmY C n) (ma C n) (mb C n) (e5.den)) = (mpf (lmX C n) (lmY C n) (ma C n) (mb C n) ((e5.den)))) ∧ ((mpf (lmX C n) (lmY C n) (mc C n) (md C n) (e5.den)) = (mpf (lmX C n) (lmY C n) (mc C n) (md C n) ((e5.den)))))))) ∧ (((mpN (lmX C n) (lmY C n) (lmN C n) (ma C n) (mb C n) (mc C n) (md C n)) ≤ (mpN (lmX C n) (lmY C n) (lmN C n) (ma C n) (mb C n) (mc C n) (md C n))) ∧ (∀ e4 : E, ((0 ≤ e4.den ∧ e4.den < (mpN (lmX C n) (lmY C n) (lmN C n) (ma C n) (mb C n) (mc C n) (md C n))) → (((mpf (lmX C n) (lmY C n) (ma C n) (mb C n) (e4.den)) = (mpf (lmX C n) (lmY C n) (ma C n) (mb C n) ((e4.den)))) ∧ ((mpf (lmX C n) (lmY C n) (mc C n) (md C n) (e4.den)) = (mpf (lmX C n) (lmY C n) (mc C n) (md C n) ((e4.den))))))))) ∧ ((eqP (mpf (lmX C n) (lmY C n) (ma C n) (mb C n)) (mpf (lmX C n) (lmY C n) (mc C n) (md C n)) (mpN (lmX C n) (lmY C n) (lmN C n) (ma C n) (mb C n) (mc C n) (md C n)) (mpf (lmX C n) (lmY C n) (ma C n) (mb C n)) (mpf (lmX C n) (lmY C n) (mc C n) (md C n)) (mpN (lmX C n) (lmY C n) (lmN C n) (ma C n) (mb C n) (mc C n) (md C n))) = true)))) ∧ (((((mpB (lmX C n) (lmY C n) (lmN C n) (ma C n) (mb C n) (mc C n) (md C n)) = true) ↔ ((mpB (lmX C n) (lmY C n) (lmN C n) (ma C n) (mb C n) (mc C n) (md C n)) = false))) → (False)))) ∧ (((((mpB (lmX C n) (lmY C n) (lmN C n) (ma C n) (mb C n) (mc C n) (md C n)) = true) ↔ ((mpB (lmX C n) (lmY C n) (lmN C n) (ma C n) (mb C n) (mc C n) (md C n)) = true))) → ((((mpN (lmX C n) (lmY C n) (lmN C n) (ma C n) (mb C n) (mc C n) (md C n)) = (mpN (lmX C n) (lmY C n) (lmN C n) (ma C n) (mb C n) (mc C n) (md C n))) ∧ ((mpN (lmX C n) (lmY C n) (lmN C n) (ma C n) (mb C n) (mc C n) (md C n)) = (mpN (lmX C n) (lmY C n) (lmN C n) (ma C n) (mb C n) (mc C n) (md C n)))) ∧ (((((mpN (lmX C n) (lmY C n) (lmN C n) (ma C n) (mb C n) (mc C n) (md C n)) ≤ (mpN (lmX C n) (lmY C n) (lmN C n) (ma C n) (mb C n) (mc C n) (md C n))) ∧ (∀ e7 : E, ((0 ≤ e7.den ∧ e7.den < (mpN (lmX C n) (lmY C n) (lmN C n) (ma C n) (mb C n) (mc C n) (md C n))) → (((mpf (lmX C n) (lmY C n) (ma C n) (mb C n) (e7.den)) = (mpf (lmX C n) (lmY C n) (ma C n) (mb C n) ((e7.den)))) ∧ ((mpf (lmX C n) (lmY C n) (mc C n) (md C n) (e7.den)) = (mpf (lmX C n) (lmY C n) (mc C n) (md C n) ((e7.den)))))))) ∧ (((mpN (lmX C n) (lmY C n) (lmN C n) (ma C n) (mb C n) (mc C n) (md C n)) ≤ (mpN (lmX C n) (lmY C n) (lmN C n) (ma C n) (mb C n) (mc C n) (md C n))) ∧ (∀ e6 : E, ((0 ≤ e6.den ∧ e6.den < (mpN (lmX C n) (lmY C n) (lmN C n) (ma C n) (mb C n) (mc C n) (md C n))) → (((mpf (lmX C n) (lmY C n) (ma C n) (mb C n) (e6.den)) = (mpf (lmX C n) (lmY C n) (ma C n) (mb C n) ((e6.den)))) ∧ ((mpf (lmX C n) (lmY C n) (mc C n) (md C n) (e6.den)) = (mpf (lmX C n) (lmY C n) (mc C n) (md C n) ((e6.den))))))))) ∧ ((((eqP (mpf (lmX C n) (lmY C n) (ma C n) (mb C n)) (mpf (lmX C n) (lmY C n) (mc C n) (md C n)) (mpN (lmX C n) (lmY C n) (lmN C n) (ma C n) (mb C n) (mc C n) (md C n)) (mpf (lmX C n) (lmY C n) (ma C n) (mb C n)) (mpf (lmX C n) (lmY C n) (mc C n) (md C n)) (mpN (lmX C n) (lmY C n) (lmN C n) (ma C n) (mb C n) (mc C n) (md C n))) = false) → ((((((mpB (lmX C n) (lmY C n) (lmN C n) (ma C n) (mb C n) (mc C n) (md C n)) = true) ↔ ((mpB (lmX C n) (lmY C n) (lmN C n) (ma C n) (mb C n) (mc C n) (md C n)) = true))) → ((((mpN (lmX C n) (lmY C n) (lmN C n) (ma C n) (mb C n) (mc C n) (md C n)) = (mpN (lmX C n) (lmY C n) (lmN C n) (ma C n) (mb C n) (mc C n) (md C n))) ∧ ((mpN (lmX C n) (lmY C n) (lmN C n) (ma C n) (mb C n) (mc C n) (md C n)) = (mpN (lmX C n) (lmY C n) (lmN C n) (ma C n) (mb C n) (mc C n) (md C n)))) ∧ (((((mpN (lmX C n) (lmY C n) (lmN C n) (ma C n) (mb C n) (mc C n) (md C n)) ≤ (mpN (lmX C n) (lmY C n) (lmN C n) (ma C n) (mb C n) (mc C n) (md C n))) ∧ (∀ e9 : E, ((0 ≤ e9.den ∧ e9.den < (mpN (lmX C n) (lmY C n) (lmN C n) (ma C n) (mb C n) (mc C n) (md C n))) → (((mpf (lmX C n) (lmY C n) (ma C n) (mb C n) ((e9.den))) = (((mpf (lmX C n) (lmY C n) (ma C n) (mb C n) (((e9.den))))))) ∧ ((mpf (lmX C n) (lmY C n) (mc C n) (md C n) ((e9.den))) = (((mpf (lmX C n) (lmY C n) (mc C n) (md C n) (((e9.den))))))))))) ∧ (((mpN (lmX C n) (lmY C n) (lmN C n) (ma C n) (mb C n) (mc C n) (md C n)) ≤ (mpN (lmX C n) (lmY C n) (lmN C n) (ma C n) (mb C n) (mc C n) (md C n))) ∧ (∀ e8 : E, ((0 ≤ e8.den ∧ e8.den < (mpN (lmX C n) (lmY C n) (lmN C n) (ma C n) (mb C n) (mc C n) (md C n))) → (((mpf (lmX C n) (lmY C n) (ma C n) (mb C n) ((e8.den))) = (((mpf (lmX C n) (lmY C n) (ma C n) (mb C n) (((e8.den))))))) ∧ ((mpf (lmX C n) (lmY C n) (mc C n) (md C n) ((e8.den))) = (((mpf (lmX C n) (lmY C n) (mc C n) (md C n) (((e8.den)))))))))))) ∧ ((eqP (mpf (lmX C n) (lmY C n) (ma C n) (mb C n)) (mpf (lmX C n) (lmY C n) (mc C n) (md C n)) (mpN (lmX C n) (lmY C n) (lmN C n) (ma C n) (mb C n) (mc C n) (md C n)) (mpf (lmX C n) (lmY C n) (ma C n) (mb C n)) (mpf (lmX C n) (lmY C n) (mc C n) (md C n)) (mpN (lmX C n) (lmY C n) (lmN C n) (ma C n) (mb C n) (mc C n) (md C n))) = true)))) ∧ (((((mpB (lmX C n) (lmY C n) (lmN C n) (ma C n) (mb C n) (mc C n) (md C n)) = true) ↔ ((mpB (lmX C n) (lmY C n) (lmN C n) (ma C n) (mb C n) (mc C n) (md C n)) = false))) → (False)))) ∧ (((eqP (mpf (lmX C n) (lmY C n) (ma C n) (mb C n)) (mpf (lmX C n) (lmY C n) (mc C n) (md C n)) (mpN (lmX C n) (lmY C n) (lmN C n) (ma C n) (mb C n) (mc C n) (md C n)) (mpf (lmX C n) (lmY C n) (ma C n) (mb C n)) (mpf (lmX C n) (lmY C n) (mc C n) (md C n)) (mpN (lmX C n) (lmY C n) (lmN C n) (ma C n) (mb C n) (mc C n) (md C n))) = true) → ((((mpB (lmX C n) (lmY C n) (lmN C n) (ma C n) (mb C n) (mc C n) (md C n)) = false) → ((((((mpB (lmX C n) (lmY C n) (lmN C n) (ma C n) (mb C n) (mc C n) (md C n)) = true) ↔ ((mpB (lmX C n) (lmY C n) (lmN C n) (ma C n) (mb C n) (mc C n) (md C n)) = true))) → ((((mpN (lmX C n) (lmY C n) (lmN C n) (ma C n) (mb C n) (mc C n) (md C n)) = (mpN (lmX C n) (lmY C n) (lmN C n) (ma C n) (mb C n) (mc C n) (md C n))) ∧ ((mpN (lmX C n) (lmY C n) (lmN C n) (ma C n) (mb C n) (mc C n) (md C n)) = (mpN (lmX C n) (lmY C n) (lmN C n) (ma C n) (mb C n) (mc C n) (md C n)))) ∧ (((((mpN (lmX C n) (lmY C n) (lmN C n) (ma C n) (mb C n) (mc C n) (md C n)) ≤ (mpN (lmX C n) (lmY C n) (lmN C n) (ma C n) (mb C n) (mc C n) (md C n))) ∧ (∀ e11 : E, ((0 ≤ e11.den ∧ e11.den < (mpN (lmX C n) (lmY C n) (lmN C n) (ma C n) (mb C n) (mc C n) (md C n))) → (((mpf (lmX C n) (lmY C n) (ma C n) (mb C n) ((e11.den))) = (((mpf (lmX C n) (lmY C n) (ma C n) (mb C n) (((e11.den))))))) ∧ ((mpf (lmX C n) (lmY C n) (mc C n) (md C n) ((e11.den))) = (((mpf (lmX C n) (lmY C n) (mc C n) (md C n) (((e11.den))))))))))) ∧ (((mpN (lmX C n) (lmY C n) (lmN C n) (ma C n) (mb C n) (mc C n) (md C n)) ≤ (mpN (lmX C n) (lmY C n) (lmN C n) (ma C n) (mb C n) (mc C n) (md C n))) ∧ (∀ e10 : E, ((0 ≤ e10.den ∧ e10.den < (mpN (lmX C n) (lmY C n) (lmN C n) (ma C n) (mb C n) (mc C n) (md C n))) → (((mpf (lmX C n) (lmY C n) (ma C n) (mb C n) ((e10.den))) = (((mpf (lmX C n) (lmY C n) (ma C n) (mb C n) (((e10.den))))))) ∧ ((mpf (lmX C n) (lmY C n) (mc C n) (md C n) ((e10.den))) = (((mpf (lmX C n) (lmY C n) (mc C n) (md C n) (((e10.den)))))))))))) ∧ ((eqP (mpf (lmX C n) (lmY C n) (ma C n) (mb C n)) (mpf (lmX C n) (lmY C n) (mc C n) (md C n)) (mpN (lmX C n) (lmY C n) (lmN C n) (ma C n) (mb C n) (mc C n) (md C n)) (mpf (lmX C n) (lmY C n) (ma C n) (mb C n)) (mpf (lmX C n) (lmY C n) (mc C n) (md C n)) (mpN (lmX C n) (lmY C n) (lmN C n) (ma C n) (mb C n) (mc C n) (md C n))) = true)))) ∧ (((((mpB (lmX C n) (lmY C n) (lmN C n) (ma C n) (mb C n) (mc C n) (md C n)) = true) ↔ ((mpB (lmX C n) (lmY C n) (lmN C n) (ma C n) (mb C n) (mc C n) (md C n)) = false))) → (False)))) ∧ (((mpB (lmX C n) (lmY C n) (lmN C n) (ma C n) (mb C n) (mc C n) (md C n)) = true) → ((((ivB (ma C n) (mb C n) (mc C n) (md C n)) = false) → ((((((mpB (lmX C n) (lmY C n) (lmN C n) (ma C n) (mb C n) (mc C n) (md C n)) = true) ↔ ((mpB (lmX C n) (lmY C n) (lmN C n) (ma C n) (mb C n) (mc C n) (md C n)) = true))) → ((((mpN (lmX C n) (lmY C n) (lmN C n) (ma C n) (mb C n) (mc C n) (md C n)) = (mpN (lmX C n) (lmY C n) (lmN C n) (ma C n) (mb C n) (mc C n) (md C n))) ∧ ((mpN (lmX C n) (lmY C n) (lmN C n) (ma C n) (mb C n) (mc C n) (md C n)) = (mpN (lmX C n) (lmY C n) (lmN C n) (ma C n) (mb C n) (mc C n) (md C n)))) ∧ (((((mpN (lmX C n) (lmY C n) (lmN C n) (ma C n) (mb C n) (mc C n) (md C n)) ≤ (mpN (lmX C n) (lmY C n) (lmN C n) (ma C n) (mb C n) (mc C n) (md C n))) ∧ (∀ e13 : E, ((0 ≤ e13.den ∧ e13.den < (mpN (lmX C n) (lmY C n) (lmN C n) (ma C n) (mb C n) (mc C n) (md C n))) → (((mpf (lmX C n) (lmY C n) (ma C n) (mb C n) ((e13.den))) = (((mpf (lmX C n) (lmY C n) (ma C n) (mb C n) (((e13.den))))))) ∧ ((mpf (lmX C n) (lmY C n) (mc C n) (md C n) ((e13.den))) = (((mpf (lmX C n) (lmY C n) (mc C n) (md C n) (((e13.den))))))))))) ∧ (((mpN (lmX C n) (lmY C n) (lmN C n) (ma C n) (mb C n) (mc C n) (md C n)) ≤ (mpN (lmX C n) (lmY C n) (lmN C n) (ma C n) (mb C n) (mc C n) (md C n))) ∧ (∀ e12 : E, ((0 ≤ e12.den ∧ e12.den < (mpN (lmX C n) (lmY C n) (lmN C n) (ma C n) (mb C n) (mc C n) (md C n))) → (((mpf (lmX C n) (lmY C n) (ma C n) (mb C n) ((e12.den))) = (((mpf (lmX C n) (lmY C n) (ma C n) (mb C n) (((e12.den))))))) ∧ ((mpf (lmX C n) (lmY C n) (mc C n) (md C n) ((e12.den))) = (((mpf (lmX C n) (lmY C n) (mc C n) (md C n) (((e12.den)))))))))))) ∧ ((eqP (mpf (lmX C n) (lmY C n) (ma C n) (mb C n)) (mpf (lmX C n) (lmY C n) (mc C n) (md C n)) (mpN (lmX C n) (lmY C n) (lmN C n) (ma C n) (mb C n) (mc C n) (md C n)) (mpf (lmX C n) (lmY C n) (ma C n) (mb C n)) (mpf (lmX C n) (lmY C n) (mc C n) (md C n)) (mpN (lmX C n) (lmY C n) (lmN C n) (ma C n) (mb C n) (mc C n) (md C n))) = true)))) ∧ (((((mpB (lmX C n) (lmY C n) (lmN C n) (ma C n) (mb C n) (mc C n) (md C n)) = true) ↔ ((mpB (lmX C n) (lmY C n) (lmN C n) (ma C n) (mb C n) (mc C n) (md C n)) = false))) → (False)))) ∧ (((ivB (ma C n) (mb C n) (mc C n) (md C n)) = true) → (((((iv (ma C n) (mb C n) (mc C n) (md C n) (detM (ma C n) (mb C n) (mc C n) (md C n) * (md C n))) = (iv (ma C n) (mb C n) (mc C n) (md C n) (detM (ma C n) (mb C n) (mc C n) (md C n) * (md C n)))) ∧ (((iv (ma C n) (mb C n) (mc C n) (md C n) ((0 - detM (ma C n) (mb C n) (mc C n) (md C n)) * (mb C n))) = ((iv (ma C n) (mb C n) (mc C n) (md C n) ((0 - detM (ma C n) (mb C n) (mc C n) (md C n)) * (mb C n))))) ∧ (((iv (ma C n) (mb C n) (mc C n) (md C n) ((0 - detM (ma C n) (mb C n) (mc C n) (md C n)) * (mc C n))) = ((iv (ma C n) (mb C n) (mc C n) (md C n) ((0 - detM (ma C n) (mb C n) (mc C n) (md C n)) * (mc C n))))) ∧ ((iv (ma C n) (mb C n) (mc C n) (md C n) (detM (ma C n) (mb C n) (mc C n) (md C n) * (ma C n))) = (iv (ma C n) (mb C n) (mc C n) (md C n) (detM (ma C n) (mb C n) (mc C n) (md C n) * (ma C n))))))) ∧ ((mpN (lmX C n) (lmY C n) (lmN C n) (ma C n) (mb C n) (mc C n) (md C n)) = (mpN (lmX C n) (lmY C n) (lmN C n) (ma C n) (mb C n) (mc C n) (md C n)))) ∧ ((((mpN (lmX C n) (lmY C n) (lmN C n) (ma C n) (mb C n) (mc C n) (md C n)) ≤ (mpN (lmX C n) (lmY C n) (lmN C n) (ma C n) (mb C n) (mc C n) (md C n))) ∧ (∀ e14 : E, ((0 ≤ e14.den ∧ e14.den < (mpN (lmX C n) (lmY C n) (lmN C n) (ma C n) (mb C n) (mc C n) (md C n))) → (((mpf (lmX C n) (lmY C n) (ma C n) (mb C n) ((e14.den))) = (((mpf (lmX C n) (lmY C n) (ma C n) (mb C n) (((e14.den))))))) ∧ ((mpf (lmX C n) (lmY C n) (mc C n) (md C n) ((e14.den))) = (((mpf (lmX C n) (lmY C n) (mc C n) (md C n) (((e14.den))))))))))) ∧ ((0 ≤ (mpN (mpf (lmX C n) (lmY C n) (ma C n) (mb C n)) (mpf (lmX C n) (lmY C n) (mc C n) (md C n)) (mpN (lmX C n) (lmY C n) (lmN C n) (ma C n) (mb C n) (mc C n) (md C n)) (iv (ma C n) (mb C n) (mc C n) (md C n) (detM (ma C n) (mb C n) (mc C n) (md C n) * (md C n))) (iv (ma C n) (mb C n) (mc C n) (md C n) ((0 - detM (ma C n) (mb C n) (mc C n) (md C n)) * (mb C n))) (iv (ma C n) (mb C n) (mc C n) (md C n) ((0 - detM (ma C n) (mb C n) (mc C n) (md C n)) * (mc C n))) (iv (ma C n) (mb C n) (mc C n) (md C n) (detM (ma C n) (mb C n) (mc C n) (md C n) * (ma C n)))) ∧ (mpN (mpf (lmX C n) (lmY C n) (ma C n) (mb C n)) (mpf (lmX C n) (lmY C n) (mc C n) (md C n)) (mpN (lmX C n) (lmY C n) (lmN C n) (ma C n) (mb C n) (mc C n) (md C n)) (iv (ma C n) (mb C n) (mc C n) (md C n) (detM (ma C n) (mb C n) (mc C n) (md C n) * (md C n))) (iv (ma C n) (mb C n) (mc C n) (md C n) ((0 - detM (ma C n) (mb C n) (mc C n) (md C n)) * (mb C n))) (iv (ma C n) (mb C n) (mc C n) (md C n) ((0 - detM (ma C n) (mb C n) (mc C n) (md C n)) * (mc C n))) (iv (ma C n) (mb C n) (mc C n) (md C n) (detM (ma C n) (mb C n) (mc C n) (md C n) * (ma C n)))) ≤ 1048576) → ((((mpB (mpf (lmX C n) (lmY C n) (ma C n) (mb C n)) (mpf (lmX C n) (lmY C n) (mc C n) (md C n)) (mpN (lmX C n) (lmY C n) (lmN C n) (ma C n) (mb C n) (mc C n) (md C n)) (iv (ma C n) (mb C n) (mc C n) (md C n) (detM (ma C n) (mb C n) (mc C n) (md C n) * (md C n))) (iv (ma C n) (mb C n) (mc C n) (md C n) ((0 - detM (ma C n) (mb C n) (mc C n) (md C n)) * (mb C n))) (iv (ma C n) (mb C n) (mc C n) (md C n) ((0 - detM (ma C n) (mb C n) (mc C n) (md C n)) * (mc C n))) (iv (ma C n) (mb C n) (mc C n) (md C n) (detM (ma C n) (mb C n) (mc C n) (md C n) * (ma C n)))) = true) → ((((mpN (mpf (lmX C n) (lmY C n) (ma C n) (mb C n)) (mpf (lmX C n) (lmY C n) (mc C n) (md C n)) (mpN (lmX C n) (lmY C n) (lmN C n) (ma C n) (mb C n) (mc C n) (md C n)) (iv (ma C n) (mb C n) (mc C n) (md C n) (detM (ma C n) (mb C n) (mc C n) (md C n) * (md C n))) (iv (ma C n) (mb C n) (mc C n) (md C n) ((0 - detM (ma C n) (mb C n) (mc C n) (md C n)) * (mb C n))) (iv (ma C n) (mb C n) (mc C n) (md C n) ((0 - detM (ma C n) (mb C n) (mc C n) (md C n)) * (mc C n))) (iv (ma C n) (mb C n) (mc C n) (md C n) (detM (ma C n) (mb C n) (mc C n) (md C n) * (ma C n)))) = ((mpN (mpf (lmX C n) (lmY C n) (ma C n) (mb C n)) (mpf (lmX C n) (lmY C n) (mc C n) (md C n)) (mpN (lmX C n) (lmY C n) (lmN C n) (ma C n) (mb C n) (mc C n) (md C n)) (iv (ma C n) (mb C n) (mc C n) (md C n) (detM (ma C n) (mb C n) (mc C n) (md C n) * (md C n))) (iv (ma C n) (mb C n) (mc C n) (md C n) ((0 - detM (ma C n) (mb C n) (mc C n) (md C n)) * (mb C n))) (iv (ma C n) (mb C n) (mc C n) (md C n) ((0 - detM (ma C n) (mb C n) (mc C n) (md C n)) * (mc C n))) (iv (ma C n) (mb C n) (mc C n) (md C n) (detM (ma C n) (mb C n) (mc C n) (md C n) * (ma C n)))))) ∧ ((lmN C n) = (lmN C n))) ∧ ((((((mpN (mpf (lmX C n) (lmY C n) (ma C n) (mb C n)) (mpf (lmX C n) (lmY C n) (mc C n) (md C n)) (mpN (lmX C n) (lmY C n) (lmN C n) (ma C n) (mb C n) (mc C n) (md C n)) (iv (ma C n) (mb C n) (mc C n) (md C n) (detM (ma C n) (mb C n) (mc C n) (md C n) * (md C n))) (iv (ma C n) (mb C n) (mc C n) (md C n) ((0 - detM (ma C n) (mb C n) (mc C n) (md C n)) * (mb C n))) (iv (ma C n) (mb C n) (mc C n) (md C n) ((0 - detM (ma C n) (mb C n) (mc C n) (md C n)) * (mc C n))) (iv (ma C n) (mb C n) (mc C n) (md C n) (detM (ma C n) (mb C n) (mc C n) (md C n) * (ma C n))))) ≤ (mpN (mpf (lmX C n) (lmY C n) (ma C n) (mb C n)) (mpf (lmX C n) (lmY C n) (mc C n) (md C n)) (mpN (lmX C n) (lmY C n) (lmN C n) (ma C n) (mb C n) (mc C n) (md C n)) (iv (ma C n) (mb C n) (mc C n) (md C n) (detM (ma C n) (mb C n) (mc C n) (md C n) * (md C n))) (iv (ma C n) (mb C n) (mc C n) (md C n) ((0 - detM (ma C n) (mb C n) (mc C n) (md C n)) * (mb C n))) (iv (ma C n) (mb C n) (mc C n) (md C n) ((0 - detM (ma C n) (mb C n) (mc C n) (md C n)) * (mc C n))) (iv (ma C n) (mb C n) (mc C n) (md C n) (detM (ma C n) (mb C n) (mc C n) (md C n) * (ma C n))))) ∧ (∀ e16 : E, ((0 ≤ e16.den ∧ e16.den < ((mpN (mpf (lmX C n) (lmY C n) (ma C n) (mb C n)) (mpf (lmX C n) (lmY C n) (mc C n) (md C n)) (mpN (lmX C n) (lmY C n) (lmN C n) (ma C n) (mb C n) (mc C n) (md C n)) (iv (ma C n) (mb C n) (mc C n) (md C n) (detM (ma C n) (mb C n) (mc C n) (md C n) * (md C n))) (iv (ma C n) (mb C n) (mc C n) (md C n) ((0 - detM (ma C n) (mb C n) (mc C n) (md C n)) * (mb C n))) (iv (ma C n) (mb C n) (mc C n) (md C n) ((0 - detM (ma C n) (mb C n) (mc C n) (md C n)) * (mc C n))) (iv (ma C n) (mb C n) (mc C n) (md C n) (detM (ma C n) (mb C n) (mc C n) (md C n) * (ma C n)))))) → (((mpf (mpf (lmX C n) (lmY C n) (ma C n) (mb C n)) (mpf (lmX C n) (lmY C n) (mc C n) (md C n)) (iv (ma C n) (mb C n) (mc C n) (md C n) (detM (ma C n) (mb C n) (mc C n) (md C n) * (md C n))) (iv (ma C n) (mb C n) (mc C n) (md C n) ((0 - detM (ma C n) (mb C n) (mc C n) (md C n)) * (mb C n))) (e16.den)) = ((mpf (mpf (lmX C n) (lmY C n) (ma C n) (mb C n)) (mpf (lmX C n) (lmY C n) (mc C n) (md C n)) (iv (ma C n) (mb C n) (mc C n) (md C n) (detM (ma C n) (mb C n) (mc C n) (md C n) * (md C n))) (iv (ma C n) (mb C n) (mc C n) (md C n) ((0 - detM (ma C n) (mb C n) (mc C n) (md C n)) * (mb C n))) ((e16.den))))) ∧ ((mpf (mpf (lmX C n) (lmY C n) (ma C n) (mb C n)) (mpf (lmX C n) (lmY C n) (mc C n) (md C n)) (iv (ma C n) (mb C n) (mc C n) (md C n) ((0 - detM (ma C n) (mb C n) (mc C n) (md C n)) * (mc C n))) (iv (ma C n) (mb C n) (mc C n) (md C n) (detM (ma C n) (mb C n) (mc C n) (md C n) * (ma C n))) (e16.den)) = ((mpf (mpf (lmX C n) (lmY C n) (ma C n) (mb C n)) (mpf (lmX C n) (lmY C n) (mc C n) (md C n)) (iv (ma C n) (mb C n) (mc C n) (md C n) ((0 - detM (ma C n) (mb C n) (mc C n) (md C n)) * (mc C n))) (iv (ma C n) (mb C n) (mc C n) (md C n) (detM (ma C n) (mb C n) (mc C n) (md C n) * (ma C n))) ((e16.den))))))))) ∧ (((lmN C n) ≤ (lmN C n)) ∧ (∀ e15 : E, ((0 ≤ e15.den ∧ e15.den < (lmN C n)) → (((((lmX C n (((e15.den)))))) = ((((lmX C n ((((e15.den))))))))) ∧ ((((lmY C n (((e15.den)))))) = ((((lmY C n ((((e15.den)))))))))))))) ∧ ((eqP ((fun ι => mpf (mpf (lmX C n) (lmY C n) (ma C n) (mb C n)) (mpf (lmX C n) (lmY C n) (mc C n) (md C n)) (iv (ma C n) (mb C n) (mc C n) (md C n) (detM (ma C n) (mb C n) (mc C n) (md C n) * (md C n))) (iv (ma C n) (mb C n) (mc C n) (md C n) ((0 - detM (ma C n) (mb C n) (mc C n) (md C n)) * (mb C n))) (ι))) ((fun ι => mpf (mpf (lmX C n) (lmY C n) (ma C n) (mb C n)) (mpf (lmX C n) (lmY C n) (mc C n) (md C n)) (iv (ma C n) (mb C n) (mc C n) (md C n) ((0 - detM (ma C n) (mb C n) (mc C n) (md C n)) * (mc C n))) (iv (ma C n) (mb C n) (mc C n) (md C n) (detM (ma C n) (mb C n) (mc C n) (md C n) * (ma C n))) (ι))) (mpN (mpf (lmX C n) (lmY C n) (ma C n) (mb C n)) (mpf (lmX C n) (lmY C n) (mc C n) (md C n)) (mpN (lmX C n) (lmY C n) (lmN C n) (ma C n) (mb C n) (mc C n) (md C n)) (iv (ma C n) (mb C n) (mc C n) (md C n) (detM (ma C n) (mb C n) (mc C n) (md C n) * (md C n))) (iv (ma C n) (mb C n) (mc C n) (md C n) ((0 - detM (ma C n) (mb C n) (mc C n) (md C n)) * (mb C n))) (iv (ma C n) (mb C n) (mc C n) (md C n) ((0 - detM (ma C n) (mb C n) (mc C n) (md C n)) * (mc C n))) (iv (ma C n) (mb C n) (mc C n) (md C n) (detM (ma C n) (mb C n) (mc C n) (md C n) * (ma C n)))) (lmX C n) (lmY C n) (lmN C n)) = true)))) ∧ (((mpB (mpf (lmX C n) (lmY C n) (ma C n) (mb C n)) (mpf (lmX C n) (lmY C n) (mc C n) (md C n)) (mpN (lmX C n) (lmY C n) (lmN C n) (ma C n) (mb C n) (mc C n) (md C n)) (iv (ma C n) (mb C n) (mc C n) (md C n) (detM (ma C n) (mb C n) (mc C n) (md C n) * (md C n))) (iv (ma C n) (mb C n) (mc C n) (md C n) ((0 - detM (ma C n) (mb C n) (mc C n) (md C n)) * (mb C n))) (iv (ma C n) (mb C n) (mc C n) (md C n) ((0 - detM (ma C n) (mb C n) (mc C n) (md C n)) * (mc C n))) (iv (ma C n) (mb C n) (mc C n) (md C n) (detM (ma C n) (mb C n) (mc C n) (md C n) * (ma C n)))) = false) → (False))))))))))))))))))))))))))))) (by kernel_rfl) ?_
  intro h1 h2
  intro c18
  refine ⟨rfl, ⟨Int.le_refl _, fun _ => fun _ => rfl⟩, ?_⟩
  intro c19
  refine ⟨⟨⟨rfl, ⟨rfl, ⟨rfl, rfl⟩⟩⟩, rfl⟩, ⟨Int.le_refl _, fun _ => fun _ => ⟨rfl, rfl⟩⟩, ?_⟩
  intro c20
  refine ⟨⟨⟨rfl, ⟨rfl, ⟨rfl, rfl⟩⟩⟩, rfl⟩, ⟨Int.le_refl _, fun _ => fun _ => ⟨rfl, rfl⟩⟩, ?_⟩
  intro c21
  refine ⟨⟨rfl, ⟨rfl, ⟨rfl, rfl⟩⟩⟩, ?_⟩
  intro c22
  refine ⟨?_, ?_⟩
  · intro c23
    refine ⟨?_, ?_⟩
    · intro c24
      refine ⟨⟨rfl, rfl⟩, ⟨⟨Int.le_refl _, fun _ => fun _ => ⟨rfl, rfl⟩⟩, ⟨Int.le_refl _, fun _ => fun _ => ⟨rfl, rfl⟩⟩⟩, ?_⟩
      -- 1: (eqP (mpf (lmX C n) (lmY C n) (ma C n) (mb C n)) (mpf (lmX C n) (lmY C n) (mc C n) (md C n)) (mpN (l
      first | rfl | omega | exact eqP_refl _ _ _ | (have hm := inv_law (X := lmX C n) (Y := lmY C n) (n := lmN C n) (a := ma C n) (b := mb C n) (c := mc C n) (d := md C n) (by assumption) (by assumption); first | omega | (simp_all; done)) | (simp_all [eqP_refl]; done) | fail
    · intro c25
      -- 2: False
      first | rfl | omega | exact eqP_refl _ _ _ | (have hm := inv_law (X := lmX C n) (Y := lmY C n) (n := lmN C n) (a := ma C n) (b := mb C n) (c := mc C n) (d := md C n) (by assumption) (by assumption); first | omega | (simp_all; done)) | (simp_all [eqP_refl]; done) | fail
  · intro c26
    refine ⟨⟨rfl, rfl⟩, ⟨⟨Int.le_refl _, fun _ => fun _ => ⟨rfl, rfl⟩⟩, ⟨Int.le_refl _, fun _ => fun _ => ⟨rfl, rfl⟩⟩⟩, ?_, ?_⟩
    · intro c27
      refine ⟨?_, ?_⟩
      · intro c28
        refine ⟨⟨rfl, rfl⟩, ⟨⟨Int.le_refl _, fun _ => fun _ => ⟨rfl, rfl⟩⟩, ⟨Int.le_refl _, fun _ => fun _ => ⟨rfl, rfl⟩⟩⟩, ?_⟩
        -- 3: (eqP (mpf (lmX C n) (lmY C n) (ma C n) (mb C n)) (mpf (lmX C n) (lmY C n) (mc C n) (md C n)) (mpN (l
        first | rfl | omega | exact eqP_refl _ _ _ | (have hm := inv_law (X := lmX C n) (Y := lmY C n) (n := lmN C n) (a := ma C n) (b := mb C n) (c := mc C n) (d := md C n) (by assumption) (by assumption); first | omega | (simp_all; done)) | (simp_all [eqP_refl]; done) | fail
      · intro c29
        -- 4: False
        first | rfl | omega | exact eqP_refl _ _ _ | (have hm := inv_law (X := lmX C n) (Y := lmY C n) (n := lmN C n) (a := ma C n) (b := mb C n) (c := mc C n) (d := md C n) (by assumption) (by assumption); first | omega | (simp_all; done)) | (simp_all [eqP_refl]; done) | fail
    · intro c30
      refine ⟨?_, ?_⟩
      · intro c31
        refine ⟨?_, ?_⟩
        · intro c32
          refine ⟨⟨rfl, rfl⟩, ⟨⟨Int.le_refl _, fun _ => fun _ => ⟨rfl, rfl⟩⟩, ⟨Int.le_refl _, fun _ => fun _ => ⟨rfl, rfl⟩⟩⟩, ?_⟩
          -- 5: (eqP (mpf (lmX C n) (lmY C n) (ma C n) (mb C n)) (mpf (lmX C n) (lmY C n) (mc C n) (md C n)) (mpN (l
          first | rfl | omega | exact eqP_refl _ _ _ | (have hm := inv_law (X := lmX C n) (Y := lmY C n) (n := lmN C n) (a := ma C n) (b := mb C n) (c := mc C n) (d := md C n) (by assumption) (by assumption); first | omega | (simp_all; done)) | (simp_all [eqP_refl]; done) | fail
        · intro c33
          -- 6: False
          first | rfl | omega | exact eqP_refl _ _ _ | (have hm := inv_law (X := lmX C n) (Y := lmY C n) (n := lmN C n) (a := ma C n) (b := mb C n) (c := mc C n) (d := md C n) (by assumption) (by assumption); first | omega | (simp_all; done)) | (simp_all [eqP_refl]; done) | fail
      · intro c34
        refine ⟨?_, ?_⟩
        · intro c35
          refine ⟨?_, ?_⟩
          · intro c36
            refine ⟨⟨rfl, rfl⟩, ⟨⟨Int.le_refl _, fun _ => fun _ => ⟨rfl, rfl⟩⟩, ⟨Int.le_refl _, fun _ => fun _ => ⟨rfl, rfl⟩⟩⟩, ?_⟩
            -- 7: (eqP (mpf (lmX C n) (lmY C n) (ma C n) (mb C n)) (mpf (lmX C n) (lmY C n) (mc C n) (md C n)) (mpN (l
            first | rfl | omega | exact eqP_refl _ _ _ | (have hm := inv_law (X := lmX C n) (Y := lmY C n) (n := lmN C n) (a := ma C n) (b := mb C n) (c := mc C n) (d := md C n) (by assumption) (by assumption); first | omega | (simp_all; done)) | (simp_all [eqP_refl]; done) | fail
          · intro c37
            -- 8: False
            first | rfl | omega | exact eqP_refl _ _ _ | (have hm := inv_law (X := lmX C n) (Y := lmY C n) (n := lmN C n) (a := ma C n) (b := mb C n) (c := mc C n) (d := md C n) (by assumption) (by assumption); first | omega | (simp_all; done)) | (simp_all [eqP_refl]; done) | fail
        · intro c38
          refine ⟨⟨⟨rfl, ⟨rfl, ⟨rfl, rfl⟩⟩⟩, rfl⟩, ⟨Int.le_refl _, fun _ => fun _ => ⟨rfl, rfl⟩⟩, ?_⟩
          intro c39
          refine ⟨?_, ?_⟩
          · intro c40
            refine ⟨⟨rfl, rfl⟩, ⟨⟨Int.le_refl _, fun _ => fun _ => ⟨rfl, rfl⟩⟩, ⟨Int.le_refl _, fun _ => fun _ => ⟨rfl, rfl⟩⟩⟩, ?_⟩
            -- 9: (eqP ((fun ι => mpf (mpf (lmX C n) (lmY C n) (ma C n) (mb C n)) (mpf (lmX C n) (lmY C n) (mc C n) (m
            first | rfl | omega | exact eqP_refl _ _ _ | (have hm := inv_law (X := lmX C n) (Y := lmY C n) (n := lmN C n) (a := ma C n) (b := mb C n) (c := mc C n) (d := md C n) (by assumption) (by assumption); first | omega | (simp_all; done)) | (simp_all [eqP_refl]; done) | fail
          · intro c41
            -- 10: False
            first | rfl | omega | exact eqP_refl _ _ _ | (have hm := inv_law (X := lmX C n) (Y := lmY C n) (n := lmN C n) (a := ma C n) (b := mb C n) (c := mc C n) (d := md C n) (by assumption) (by assumption); first | omega | (simp_all; done)) | (simp_all [eqP_refl]; done) | fail
def c_l_FnMapPoints (C : Int → Int) (n : Int) : Cn Try.prog := ⟨_, _, _, _, _, l_FnMapPoints C n⟩
end Go.Proofs.Ythedmdhllcgpcaa
