/- Rectangles drawn. -/
import Derived.Test.YtpnjopppclmfkaaK6
set_option linter.unusedSimpArgs false
set_option linter.unusedVariables false
set_option maxRecDepth 100000
namespace Go.Proofs.Ytpnjopppclmfkaa
open Go.Sym
def rrHX (C : Int → Int) (n p : Int) : Int := rpX C n p + 1 + pk C n (p + 1 + 1) 6
def rrHY (C : Int → Int) (n p : Int) : Int := rpY C n p + 1 + pk C n (p + 1 + 1 + 1) 6
def arS (C : Int → Int) (n p : Int) : Int := pk C n (p + 1 + 1 + 1 + 1) 18
def arLY (C : Int → Int) (n p : Int) : Int := if arS C n p = 1 then selL [-1001, -1000] (pk C n (p + 1 + 1 + 1 + 1 + 1) 2) else rpY C n p
def arHX (C : Int → Int) (n p : Int) : Int := if arS C n p = 0 then rpX C n p else rrHX C n p
def arP (C : Int → Int) (n p : Int) : Int := if arS C n p = 0 then p + 1 + 1 + 1 + 1 + 1 else if arS C n p = 1 then p + 1 + 1 + 1 + 1 + 1 + 1 else p + 1 + 1 + 1 + 1 + 1
theorem one_2 (C : Int → Int) (n : Int) (p : Int) (L : Int → Int) : RunsTo Try.prog 79 [(.ptr 0 2 (.lit 0) 0), (.sl 1 1 (.lit 0) (.lit 2) 2)] [some ⟨110, 2, true, (.lit [[(.sl 2 1 (.lit 0) (.v fun _ => n) 2000), (.int .i64 (.v fun _ => p) 0 9999990)]])⟩, some ⟨3, 1, true, (.sym (.lit 2) fun e => [(.int .i64 (.v fun _ => (L (e.den))) (-1001) 1001)])⟩, some ⟨5, 1, false, (.sym (.v fun _ => n) fun e => [(.int .u8 (.v fun _ => (C (e.den))) 0 255)])⟩] (.int .i64 (.v fun _ => (L (pk C n p 2))) (-1001) 1001) [some ⟨110, 2, true, (.lit [[(.sl 2 1 (.lit 0) (.v fun _ => n) 2000), (.int .i64 (.v fun _ => p + 1) 0 9999991)]])⟩, some ⟨3, 1, true, (.sym (.lit 2) fun e => [(.int .i64 (.v fun _ => (L (e.den))) (-1001) 1001)])⟩, some ⟨5, 1, false, (.sym (.v fun _ => n) fun e => [(.int .u8 (.v fun _ => (C (e.den))) 0 255)])⟩] := by
  refine RunsTo.go env Try.func79 rfl Try.call79 rfl rfl (fun _ _ => (.callF (c_pick_2 C n p) (.need (.need .ret)))) (G := (True) → (((0 ≤ n ∧ n ≤ 2000) ∧ (0 ≤ p ∧ p ≤ 9999990)) ∧ ((∀ e5 : E, ((0 ≤ e5.den ∧ e5.den < 2) → ((-1001) ≤ ((L (e5.den))) ∧ ((L (e5.den))) ≤ 1001))) ∧ (∀ e4 : E, ((0 ≤ e4.den ∧ e4.den < n) → (0 ≤ ((C (e4.den))) ∧ ((C (e4.den))) ≤ 255))))) → (((0 ≤ (2 : Int) ∧ (2 : Int) ≤ 2) → (2 ≤ (2 : Int) ∧ (2 : Int) ≤ 2)) ∧ ((((n = n) ∧ (p = p)) ∧ ((n ≤ n) ∧ (∀ e1 : E, ((0 ≤ e1.den ∧ e1.den < n) → (((C (e1.den))) = ((C (e1.den)))))))) ∧ ((0 ≤ (pk C n p 2) ∧ (pk C n p 2) ≤ 1) → ((((0 ≤ (pk C n p 2)) ∧ ((pk C n p 2) < 2))) ∧ (((pk C n p 2) < 2) ∧ ((((L (pk C n p 2))) = ((L (pk C n p 2)))) ∧ (((n = n) ∧ (((p + 1) = (p + 1)) ∧ ((0 ≤ (p + 1) ∧ (p + 1) ≤ 10000001) → (0 ≤ (p + 1) ∧ (p + 1) ≤ 9999991)))) ∧ ((((2 : Int) ≤ 2) ∧ (∀ e3 : E, ((0 ≤ e3.den ∧ e3.den < 2) → (((L (e3.den))) = ((L (e3.den))))))) ∧ ((n ≤ n) ∧ (∀ e2 : E, ((0 ≤ e2.den ∧ e2.den < n) → (((C (e2.den))) = ((C (e2.den)))))))))))))))) (by kernel_rfl) ?_
  intro h1 h2
  refine ⟨?_, ⟨⟨rfl, rfl⟩, ⟨Int.le_refl _, fun _ => fun _ => rfl⟩⟩, ?_⟩
  · intro c6
    -- 1: 2 ≤ (2 : Int) ∧ (2 : Int) ≤ 2
    first | rfl | omega
  · intro c7
    refine ⟨?_, ?_, rfl, ?_, ⟨Int.le_refl _, fun _ => fun _ => rfl⟩, Int.le_refl _, fun _ => fun _ => rfl⟩
      -- 2: ((0 ≤ (pk C n p 2)) ∧ ((pk C n p 2) < 2))
    · first | rfl | omega
      -- 3: (pk C n p 2) < 2
    · first | rfl | omega
    · refine ⟨rfl, rfl, ?_⟩
      intro c8
      -- 4: 0 ≤ (p + 1) ∧ (p + 1) ≤ 9999991
      first | rfl | omega
def c_one_2 (C : Int → Int) (n : Int) (p : Int) (L : Int → Int) : Cn Try.prog := ⟨_, _, _, _, _, one_2 C n p L⟩
theorem randomRect (C : Int → Int) (n : Int) (p : Int) : RunsTo Try.prog 112 [(.ptr 0 2 (.lit 0) 0)] [some ⟨110, 2, true, (.lit [[(.sl 1 1 (.lit 0) (.v fun _ => n) 2000), (.int .i64 (.v fun _ => p) 0 9999800)]])⟩, some ⟨5, 1, false, (.sym (.v fun _ => n) fun e => [(.int .u8 (.v fun _ => (C (e.den))) 0 255)])⟩] (.agg [(.int .i64 (.v fun _ => rpX C n p) (-20) 20), (.int .i64 (.v fun _ => rpY C n p) (-20) 20), (.int .i64 (.v fun _ => rrHX C n p) (-20) 20), (.int .i64 (.v fun _ => rrHY C n p) (-20) 20)]) [some ⟨110, 2, true, (.lit [[(.sl 1 1 (.lit 0) (.v fun _ => n) 2000), (.int .i64 (.v fun _ => p + 1 + 1 + 1 + 1) 0 9999804)]])⟩, some ⟨5, 1, false, (.sym (.v fun _ => n) fun e => [(.int .u8 (.v fun _ => (C (e.den))) 0 255)])⟩] := by
  refine RunsTo.go env Try.func112 rfl Try.call112 rfl rfl (fun _ _ => (.call (c_randomPoint C n p) (.call (c_pick_6 C n (p + 1 + 1)) (.call (c_pick_6 C n ((p + 1 + 1) + 1)) .ret)))) (G := (True) → (((0 ≤ n ∧ n ≤ 2000) ∧ (0 ≤ p ∧ p ≤ 9999800)) ∧ (∀ e5 : E, ((0 ≤ e5.den ∧ e5.den < n) → (0 ≤ ((C (e5.den))) ∧ ((C (e5.den))) ≤ 255)))) → ((((n = n) ∧ (p = p)) ∧ ((n ≤ n) ∧ (∀ e1 : E, ((0 ≤ e1.den ∧ e1.den < n) → (((C (e1.den))) = ((C (e1.den)))))))) ∧ ((((n = n) ∧ ((p + 1 + 1) = (p + 1 + 1))) ∧ ((n ≤ n) ∧ (∀ e2 : E, ((0 ≤ e2.den ∧ e2.den < n) → (((C (e2.den))) = ((C (e2.den)))))))) ∧ ((((n = n) ∧ ((((p + 1 + 1) + 1) = ((p + 1 + 1) + 1)) ∧ ((0 ≤ ((p + 1 + 1) + 1) ∧ ((p + 1 + 1) + 1) ≤ 10000001) → (0 ≤ ((p + 1 + 1) + 1) ∧ ((p + 1 + 1) + 1) ≤ 10000000)))) ∧ ((n ≤ n) ∧ (∀ e3 : E, ((0 ≤ e3.den ∧ e3.den < n) → (((C (e3.den))) = ((C (e3.den)))))))) ∧ ((((rpX C n p) = (rpX C n p)) ∧ (((rpY C n p) = (rpY C n p)) ∧ (((((rpX C n p) + 1) + (pk C n (p + 1 + 1) 6)) = (rrHX C n p)) ∧ ((((rpY C n p) + 1) + (pk C n ((p + 1 + 1) + 1) 6)) = (rrHY C n p))))) ∧ (((n = n) ∧ (((((p + 1 + 1) + 1) + 1) = (p + 1 + 1 + 1 + 1)) ∧ ((0 ≤ (((p + 1 + 1) + 1) + 1) ∧ (((p + 1 + 1) + 1) + 1) ≤ 10000001) → (0 ≤ (p + 1 + 1 + 1 + 1) ∧ (p + 1 + 1 + 1 + 1) ≤ 9999804)))) ∧ ((n ≤ n) ∧ (∀ e4 : E, ((0 ≤ e4.den ∧ e4.den < n) → (((C (e4.den))) = ((C (e4.den))))))))))))) (by kernel_rfl) ?_
  intro h1 h2
  refine ⟨⟨⟨rfl, rfl⟩, ⟨Int.le_refl _, fun _ => fun _ => rfl⟩⟩, ⟨⟨rfl, rfl⟩, ⟨Int.le_refl _, fun _ => fun _ => rfl⟩⟩, ?_, ?_, ?_, Int.le_refl _, fun _ => fun _ => rfl⟩
  · refine ⟨?_, Int.le_refl _, fun _ => fun _ => rfl⟩
    refine ⟨rfl, rfl, ?_⟩
    intro c6
    -- 1: 0 ≤ ((p + 1 + 1) + 1) ∧ ((p + 1 + 1) + 1) ≤ 10000000
    first | rfl | omega
  · refine ⟨rfl, rfl, ?_, ?_⟩
      -- 2: (((rpX C n p) + 1) + (pk C n (p + 1 + 1) 6)) = (rrHX C n p)
    · first | rfl | omega
      -- 3: (((rpY C n p) + 1) + (pk C n ((p + 1 + 1) + 1) 6)) = (rrHY C n p)
    · first | rfl | omega
  · refine ⟨rfl, ?_, ?_⟩
      -- 4: (((p + 1 + 1) + 1) + 1) = (p + 1 + 1 + 1 + 1)
    · first | rfl | omega
    · intro c7
      -- 5: 0 ≤ (p + 1 + 1 + 1 + 1) ∧ (p + 1 + 1 + 1 + 1) ≤ 9999804
      first | rfl | omega
def c_randomRect (C : Int → Int) (n : Int) (p : Int) : Cn Try.prog := ⟨_, _, _, _, _, randomRect C n p⟩
theorem anyRect (C : Int → Int) (n : Int) (p : Int) : RunsTo Try.prog 80 [(.ptr 0 2 (.lit 0) 0)] [some ⟨110, 2, true, (.lit [[(.sl 1 1 (.lit 0) (.v fun _ => n) 2000), (.int .i64 (.v fun _ => p) 0 9999800)]])⟩, some ⟨5, 1, false, (.sym (.v fun _ => n) fun e => [(.int .u8 (.v fun _ => (C (e.den))) 0 255)])⟩] (.agg [(.int .i64 (.v fun _ => rpX C n p) (-1001) 1001), (.int .i64 (.v fun _ => arLY C n p) (-1001) 1001), (.int .i64 (.v fun _ => arHX C n p) (-1001) 1001), (.int .i64 (.v fun _ => rrHY C n p) (-1001) 1001)]) [some ⟨110, 2, true, (.lit [[(.sl 1 1 (.lit 0) (.v fun _ => n) 2000), (.int .i64 (.v fun _ => arP C n p) 0 9999806)]])⟩, some ⟨5, 1, false, (.sym (.v fun _ => n) fun e => [(.int .u8 (.v fun _ => (C (e.den))) 0 255)])⟩] := by
  refine RunsTo.go env Try.func80 rfl Try.call80 rfl rfl (fun _ _ => (.call (c_randomRect C n p) (.call (c_pick_18 C n (p + 1 + 1 + 1 + 1)) (.ite .ret (.ite (.call (c_one_2 C n ((p + 1 + 1 + 1 + 1) + 1) (selL [(-1001), (-1000)])) .ret) .ret))))) (G := (True) → (((0 ≤ n ∧ n ≤ 2000) ∧ (0 ≤ p ∧ p ≤ 9999800)) ∧ (∀ e9 : E, ((0 ≤ e9.den ∧ e9.den < n) → (0 ≤ ((C (e9.den))) ∧ ((C (e9.den))) ≤ 255)))) → ((((n = n) ∧ (p = p)) ∧ ((n ≤ n) ∧ (∀ e1 : E, ((0 ≤ e1.den ∧ e1.den < n) → (((C (e1.den))) = ((C (e1.den)))))))) ∧ ((((n = n) ∧ ((p + 1 + 1 + 1 + 1) = (p + 1 + 1 + 1 + 1))) ∧ ((n ≤ n) ∧ (∀ e2 : E, ((0 ≤ e2.den ∧ e2.den < n) → (((C (e2.den))) = ((C (e2.den)))))))) ∧ ((((pk C n (p + 1 + 1 + 1 + 1) 18) = 0) → ((((rpX C n p) = (rpX C n p)) ∧ (((rpY C n p) = (arLY C n p)) ∧ (((rpX C n p) = (arHX C n p)) ∧ ((rrHY C n p) = (rrHY C n p))))) ∧ (((n = n) ∧ ((((p + 1 + 1 + 1 + 1) + 1) = (arP C n p)) ∧ ((0 ≤ ((p + 1 + 1 + 1 + 1) + 1) ∧ ((p + 1 + 1 + 1 + 1) + 1) ≤ 10000001) → (0 ≤ (arP C n p) ∧ (arP C n p) ≤ 9999806)))) ∧ ((n ≤ n) ∧ (∀ e3 : E, ((0 ≤ e3.den ∧ e3.den < n) → (((C (e3.den))) = ((C (e3.den)))))))))) ∧ (((pk C n (p + 1 + 1 + 1 + 1) 18) ≠ 0) → ((((pk C n (p + 1 + 1 + 1 + 1) 18) = 1) → ((((n = n) ∧ ((((p + 1 + 1 + 1 + 1) + 1) = ((p + 1 + 1 + 1 + 1) + 1)) ∧ ((0 ≤ ((p + 1 + 1 + 1 + 1) + 1) ∧ ((p + 1 + 1 + 1 + 1) + 1) ≤ 10000001) → (0 ≤ ((p + 1 + 1 + 1 + 1) + 1) ∧ ((p + 1 + 1 + 1 + 1) + 1) ≤ 9999990)))) ∧ (((∀ e6 : E, ((e6.den = 0) → (((-1001) : Int) = (selL [(-1001), (-1000)] (e6.den))))) ∧ (∀ e5 : E, ((e5.den = 1) → (((-1000) : Int) = (selL [(-1001), (-1000)] (e5.den)))))) ∧ ((n ≤ n) ∧ (∀ e4 : E, ((0 ≤ e4.den ∧ e4.den < n) → (((C (e4.den))) = ((C (e4.den))))))))) ∧ ((((rpX C n p) = (rpX C n p)) ∧ ((((selL [(-1001), (-1000)] (pk C n ((p + 1 + 1 + 1 + 1) + 1) 2))) = (arLY C n p)) ∧ (((rrHX C n p) = (arHX C n p)) ∧ ((rrHY C n p) = (rrHY C n p))))) ∧ (((n = n) ∧ (((((p + 1 + 1 + 1 + 1) + 1) + 1) = (arP C n p)) ∧ ((0 ≤ (((p + 1 + 1 + 1 + 1) + 1) + 1) ∧ (((p + 1 + 1 + 1 + 1) + 1) + 1) ≤ 9999991) → (0 ≤ (arP C n p) ∧ (arP C n p) ≤ 9999806)))) ∧ ((n ≤ n) ∧ (∀ e7 : E, ((0 ≤ e7.den ∧ e7.den < n) → (((C (e7.den))) = ((C (e7.den))))))))))) ∧ (((pk C n (p + 1 + 1 + 1 + 1) 18) ≠ 1) → ((((rpX C n p) = (rpX C n p)) ∧ (((rpY C n p) = (arLY C n p)) ∧ (((rrHX C n p) = (arHX C n p)) ∧ ((rrHY C n p) = (rrHY C n p))))) ∧ (((n = n) ∧ ((((p + 1 + 1 + 1 + 1) + 1) = (arP C n p)) ∧ ((0 ≤ ((p + 1 + 1 + 1 + 1) + 1) ∧ ((p + 1 + 1 + 1 + 1) + 1) ≤ 10000001) → (0 ≤ (arP C n p) ∧ (arP C n p) ≤ 9999806)))) ∧ ((n ≤ n) ∧ (∀ e8 : E, ((0 ≤ e8.den ∧ e8.den < n) → (((C (e8.den))) = ((C (e8.den)))))))))))))))) (by kernel_rfl) ?_
  intro h1 h2
  refine ⟨⟨⟨rfl, rfl⟩, ⟨Int.le_refl _, fun _ => fun _ => rfl⟩⟩, ⟨⟨rfl, rfl⟩, ⟨Int.le_refl _, fun _ => fun _ => rfl⟩⟩, ?_, ?_⟩
  · intro c10
    refine ⟨?_, ?_, Int.le_refl _, fun _ => fun _ => rfl⟩
    · refine ⟨rfl, ?_, ?_, rfl⟩
        -- 1: (rpY C n p) = (arLY C n p)
      · first | rfl | omega | (simp_all [selL]; done) | (simp_all [arLY, arHX, arP, arS]; done) | (simp_all [arLY, arHX, arP, arS]; omega) | (intro e h; simp_all [selL]; done)
        -- 2: (rpX C n p) = (arHX C n p)
      · first | rfl | omega | (simp_all [selL]; done) | (simp_all [arLY, arHX, arP, arS]; done) | (simp_all [arLY, arHX, arP, arS]; omega) | (intro e h; simp_all [selL]; done)
    · refine ⟨rfl, ?_, ?_⟩
        -- 3: ((p + 1 + 1 + 1 + 1) + 1) = (arP C n p)
      · first | rfl | omega | (simp_all [selL]; done) | (simp_all [arLY, arHX, arP, arS]; done) | (simp_all [arLY, arHX, arP, arS]; omega) | (intro e h; simp_all [selL]; done)
      · intro c11
        -- 4: 0 ≤ (arP C n p) ∧ (arP C n p) ≤ 9999806
        first | rfl | omega | (simp_all [selL]; done) | (simp_all [arLY, arHX, arP, arS]; done) | (simp_all [arLY, arHX, arP, arS]; omega) | (intro e h; simp_all [selL]; done)
  · intro c12
    refine ⟨?_, ?_⟩
    · intro c13
      refine ⟨?_, ?_, ?_, Int.le_refl _, fun _ => fun _ => rfl⟩
      · refine ⟨?_, ?_, Int.le_refl _, fun _ => fun _ => rfl⟩
        · refine ⟨rfl, rfl, ?_⟩
          intro c14
          -- 5: 0 ≤ ((p + 1 + 1 + 1 + 1) + 1) ∧ ((p + 1 + 1 + 1 + 1) + 1) ≤ 9999990
          first | rfl | omega | (simp_all [selL]; done) | (simp_all [arLY, arHX, arP, arS]; done) | (simp_all [arLY, arHX, arP, arS]; omega) | (intro e h; simp_all [selL]; done)
        · refine ⟨?_, ?_⟩
          · intro e6
            intro c15
            -- 6: ((-1001) : Int) = (selL [(-1001), (-1000)] (e6.den))
            first | rfl | omega | (simp_all [selL]; done) | (simp_all [arLY, arHX, arP, arS]; done) | (simp_all [arLY, arHX, arP, arS]; omega) | (intro e h; simp_all [selL]; done)
          · intro e5
            intro c16
            -- 7: ((-1000) : Int) = (selL [(-1001), (-1000)] (e5.den))
            first | rfl | omega | (simp_all [selL]; done) | (simp_all [arLY, arHX, arP, arS]; done) | (simp_all [arLY, arHX, arP, arS]; omega) | (intro e h; simp_all [selL]; done)
      · refine ⟨rfl, ?_, ?_, rfl⟩
          -- 8: ((selL [(-1001), (-1000)] (pk C n ((p + 1 + 1 + 1 + 1) + 1) 2))) = (arLY C n p)
        · first | rfl | omega | (simp_all [selL]; done) | (simp_all [arLY, arHX, arP, arS]; done) | (simp_all [arLY, arHX, arP, arS]; omega) | (intro e h; simp_all [selL]; done)
          -- 9: (rrHX C n p) = (arHX C n p)
        · first | rfl | omega | (simp_all [selL]; done) | (simp_all [arLY, arHX, arP, arS]; done) | (simp_all [arLY, arHX, arP, arS]; omega) | (intro e h; simp_all [selL]; done)
      · refine ⟨rfl, ?_, ?_⟩
          -- 10: (((p + 1 + 1 + 1 + 1) + 1) + 1) = (arP C n p)
        · first | rfl | omega | (simp_all [selL]; done) | (simp_all [arLY, arHX, arP, arS]; done) | (simp_all [arLY, arHX, arP, arS]; omega) | (intro e h; simp_all [selL]; done)
        · intro c17
          -- 11: 0 ≤ (arP C n p) ∧ (arP C n p) ≤ 9999806
          first | rfl | omega | (simp_all [selL]; done) | (simp_all [arLY, arHX, arP, arS]; done) | (simp_all [arLY, arHX, arP, arS]; omega) | (intro e h; simp_all [selL]; done)
    · intro c18
      refine ⟨?_, ?_, Int.le_refl _, fun _ => fun _ => rfl⟩
      · refine ⟨rfl, ?_, ?_, rfl⟩
          -- 12: (rpY C n p) = (arLY C n p)
        · first | rfl | omega | (simp_all [selL]; done) | (simp_all [arLY, arHX, arP, arS]; done) | (simp_all [arLY, arHX, arP, arS]; omega) | (intro e h; simp_all [selL]; done)
          -- 13: (rrHX C n p) = (arHX C n p)
        · first | rfl | omega | (simp_all [selL]; done) | (simp_all [arLY, arHX, arP, arS]; done) | (simp_all [arLY, arHX, arP, arS]; omega) | (intro e h; simp_all [selL]; done)
      · refine ⟨rfl, ?_, ?_⟩
          -- 14: ((p + 1 + 1 + 1 + 1) + 1) = (arP C n p)
        · first | rfl | omega | (simp_all [selL]; done) | (simp_all [arLY, arHX, arP, arS]; done) | (simp_all [arLY, arHX, arP, arS]; omega) | (intro e h; simp_all [selL]; done)
        · intro c19
          -- 15: 0 ≤ (arP C n p) ∧ (arP C n p) ≤ 9999806
          first | rfl | omega | (simp_all [selL]; done) | (simp_all [arLY, arHX, arP, arS]; done) | (simp_all [arLY, arHX, arP, arS]; omega) | (intro e h; simp_all [selL]; done)
def c_anyRect (C : Int → Int) (n : Int) (p : Int) : Cn Try.prog := ⟨_, _, _, _, _, anyRect C n p⟩
def lsX (C : Int → Int) (n : Int) : Int → Int := anX C (cut n) 0 8
def lsY (C : Int → Int) (n : Int) : Int → Int := anY C (cut n) 0 8
def lsN (C : Int → Int) (n : Int) : Int := anN C (cut n) 0 8
def rq1 (C : Int → Int) (n : Int) : Int := rpX C (cut n) (anP C (cut n) 0 8)
def rq2 (C : Int → Int) (n : Int) : Int := arLY C (cut n) (anP C (cut n) 0 8)
def rq3 (C : Int → Int) (n : Int) : Int := arHX C (cut n) (anP C (cut n) 0 8)
def rq4 (C : Int → Int) (n : Int) : Int := rrHY C (cut n) (anP C (cut n) 0 8)
end Go.Proofs.Ytpnjopppclmfkaa
