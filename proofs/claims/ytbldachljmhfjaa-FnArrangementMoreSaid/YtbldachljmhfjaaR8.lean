/- Graphs drawn. -/
import Derived.Test.YtbldachljmhfjaaK51
import Derived.Test.YtbldachljmhfjaaR2
set_option linter.unusedSimpArgs false
set_option linter.unusedVariables false
set_option maxRecDepth 100000
namespace Go.Proofs.Ytbldachljmhfjaa
open Go.Sym
def rgM (C : Int → Int) (n p : Int) : Int := pk C n p 7 - 3
def rgB (C : Int → Int) (n p : Int) : Int := pk C n (p + 1) 9 - 4
def oneG (k : Int) : Int := selL [1001, -1001, 1000] k
def agM (C : Int → Int) (n p : Int) : Int := if pk C n (p + 1 + 1) 16 = 0 then oneG (pk C n (p + 1 + 1 + 1) 3) else rgM C n p
def agB (C : Int → Int) (n p : Int) : Int := if pk C n (p + 1 + 1) 16 = 1 then oneG (pk C n (p + 1 + 1 + 1) 3) else rgB C n p
def agP (C : Int → Int) (n p : Int) : Int := if pk C n (p + 1 + 1) 16 = 0 then p + 1 + 1 + 1 + 1 else if pk C n (p + 1 + 1) 16 = 1 then p + 1 + 1 + 1 + 1 else p + 1 + 1 + 1
theorem agP_bd (C : Int → Int) (n p : Int) : p + 3 ≤ agP C n p ∧ agP C n p ≤ p + 4 := by unfold agP; split <;> (try split) <;> omega
theorem one_3 (C : Int → Int) (n : Int) (p : Int) (L : Int → Int) : RunsTo Try.prog 56 [(.ptr 0 2 (.lit 0) 0), (.sl 1 1 (.lit 0) (.lit 3) 3)] [some ⟨96, 2, true, (.lit [[(.sl 2 1 (.lit 0) (.v fun _ => n) 2000), (.int .i64 (.v fun _ => p) 0 9999990)]])⟩, some ⟨3, 1, true, (.sym (.lit 3) fun e => [(.int .i64 (.v fun _ => (L (e.den))) (-1001) 1001)])⟩, some ⟨5, 1, false, (.sym (.v fun _ => n) fun e => [(.int .u8 (.v fun _ => (C (e.den))) 0 255)])⟩] (.int .i64 (.v fun _ => (L (pk C n p 3))) (-1001) 1001) [some ⟨96, 2, true, (.lit [[(.sl 2 1 (.lit 0) (.v fun _ => n) 2000), (.int .i64 (.v fun _ => p + 1) 0 9999991)]])⟩, some ⟨3, 1, true, (.sym (.lit 3) fun e => [(.int .i64 (.v fun _ => (L (e.den))) (-1001) 1001)])⟩, some ⟨5, 1, false, (.sym (.v fun _ => n) fun e => [(.int .u8 (.v fun _ => (C (e.den))) 0 255)])⟩] := by
  refine RunsTo.go env Try.func56 rfl Try.call56 rfl rfl (fun _ _ => (.callF (c_pick_3 C n p) (.need (.need .ret)))) (G := (True) → (((0 ≤ n ∧ n ≤ 2000) ∧ (0 ≤ p ∧ p ≤ 9999990)) ∧ ((∀ e5 : E, ((0 ≤ e5.den ∧ e5.den < 3) → ((-1001) ≤ ((L (e5.den))) ∧ ((L (e5.den))) ≤ 1001))) ∧ (∀ e4 : E, ((0 ≤ e4.den ∧ e4.den < n) → (0 ≤ ((C (e4.den))) ∧ ((C (e4.den))) ≤ 255))))) → (((0 ≤ (3 : Int) ∧ (3 : Int) ≤ 3) → (3 ≤ (3 : Int) ∧ (3 : Int) ≤ 3)) ∧ ((((n = n) ∧ (p = p)) ∧ ((n ≤ n) ∧ (∀ e1 : E, ((0 ≤ e1.den ∧ e1.den < n) → (((C (e1.den))) = ((C (e1.den)))))))) ∧ ((0 ≤ (pk C n p 3) ∧ (pk C n p 3) ≤ 2) → ((((0 ≤ (pk C n p 3)) ∧ ((pk C n p 3) < 3))) ∧ (((pk C n p 3) < 3) ∧ ((((L (pk C n p 3))) = ((L (pk C n p 3)))) ∧ (((n = n) ∧ (((p + 1) = (p + 1)) ∧ ((0 ≤ (p + 1) ∧ (p + 1) ≤ 10000001) → (0 ≤ (p + 1) ∧ (p + 1) ≤ 9999991)))) ∧ ((((3 : Int) ≤ 3) ∧ (∀ e3 : E, ((0 ≤ e3.den ∧ e3.den < 3) → (((L (e3.den))) = ((L (e3.den))))))) ∧ ((n ≤ n) ∧ (∀ e2 : E, ((0 ≤ e2.den ∧ e2.den < n) → (((C (e2.den))) = ((C (e2.den)))))))))))))))) (by kernel_rfl) ?_
  intro h1 h2
  refine ⟨?_, ⟨⟨rfl, rfl⟩, ⟨Int.le_refl _, fun _ => fun _ => rfl⟩⟩, ?_⟩
  · intro c6
    -- 1: 3 ≤ (3 : Int) ∧ (3 : Int) ≤ 3
    first | rfl | omega
  · intro c7
    refine ⟨?_, ?_, rfl, ?_, ⟨Int.le_refl _, fun _ => fun _ => rfl⟩, Int.le_refl _, fun _ => fun _ => rfl⟩
      -- 2: ((0 ≤ (pk C n p 3)) ∧ ((pk C n p 3) < 3))
    · first | rfl | omega
      -- 3: (pk C n p 3) < 3
    · first | rfl | omega
    · refine ⟨rfl, rfl, ?_⟩
      intro c8
      -- 4: 0 ≤ (p + 1) ∧ (p + 1) ≤ 9999991
      first | rfl | omega
def c_one_3 (C : Int → Int) (n : Int) (p : Int) (L : Int → Int) : Cn Try.prog := ⟨_, _, _, _, _, one_3 C n p L⟩
theorem one_8 (C : Int → Int) (n : Int) (p : Int) (L : Int → Int) : RunsTo Try.prog 56 [(.ptr 0 2 (.lit 0) 0), (.sl 1 1 (.lit 0) (.lit 8) 8)] [some ⟨96, 2, true, (.lit [[(.sl 2 1 (.lit 0) (.v fun _ => n) 2000), (.int .i64 (.v fun _ => p) 0 9999990)]])⟩, some ⟨3, 1, true, (.sym (.lit 8) fun e => [(.int .i64 (.v fun _ => (L (e.den))) 0 9)])⟩, some ⟨5, 1, false, (.sym (.v fun _ => n) fun e => [(.int .u8 (.v fun _ => (C (e.den))) 0 255)])⟩] (.int .i64 (.v fun _ => (L (pk C n p 8))) 0 9) [some ⟨96, 2, true, (.lit [[(.sl 2 1 (.lit 0) (.v fun _ => n) 2000), (.int .i64 (.v fun _ => p + 1) 0 9999991)]])⟩, some ⟨3, 1, true, (.sym (.lit 8) fun e => [(.int .i64 (.v fun _ => (L (e.den))) 0 9)])⟩, some ⟨5, 1, false, (.sym (.v fun _ => n) fun e => [(.int .u8 (.v fun _ => (C (e.den))) 0 255)])⟩] := by
  refine RunsTo.go env Try.func56 rfl Try.call56 rfl rfl (fun _ _ => (.callF (c_pick_8 C n p) (.need (.need .ret)))) (G := (True) → (((0 ≤ n ∧ n ≤ 2000) ∧ (0 ≤ p ∧ p ≤ 9999990)) ∧ ((∀ e5 : E, ((0 ≤ e5.den ∧ e5.den < 8) → (0 ≤ ((L (e5.den))) ∧ ((L (e5.den))) ≤ 9))) ∧ (∀ e4 : E, ((0 ≤ e4.den ∧ e4.den < n) → (0 ≤ ((C (e4.den))) ∧ ((C (e4.den))) ≤ 255))))) → (((0 ≤ (8 : Int) ∧ (8 : Int) ≤ 8) → (8 ≤ (8 : Int) ∧ (8 : Int) ≤ 8)) ∧ ((((n = n) ∧ (p = p)) ∧ ((n ≤ n) ∧ (∀ e1 : E, ((0 ≤ e1.den ∧ e1.den < n) → (((C (e1.den))) = ((C (e1.den)))))))) ∧ ((0 ≤ (pk C n p 8) ∧ (pk C n p 8) ≤ 7) → ((((0 ≤ (pk C n p 8)) ∧ ((pk C n p 8) < 8))) ∧ (((pk C n p 8) < 8) ∧ ((((L (pk C n p 8))) = ((L (pk C n p 8)))) ∧ (((n = n) ∧ (((p + 1) = (p + 1)) ∧ ((0 ≤ (p + 1) ∧ (p + 1) ≤ 10000001) → (0 ≤ (p + 1) ∧ (p + 1) ≤ 9999991)))) ∧ ((((8 : Int) ≤ 8) ∧ (∀ e3 : E, ((0 ≤ e3.den ∧ e3.den < 8) → (((L (e3.den))) = ((L (e3.den))))))) ∧ ((n ≤ n) ∧ (∀ e2 : E, ((0 ≤ e2.den ∧ e2.den < n) → (((C (e2.den))) = ((C (e2.den)))))))))))))))) (by kernel_rfl) ?_
  intro h1 h2
  refine ⟨?_, ⟨⟨rfl, rfl⟩, ⟨Int.le_refl _, fun _ => fun _ => rfl⟩⟩, ?_⟩
  · intro c6
    -- 1: 8 ≤ (8 : Int) ∧ (8 : Int) ≤ 8
    first | rfl | omega
  · intro c7
    refine ⟨?_, ?_, rfl, ?_, ⟨Int.le_refl _, fun _ => fun _ => rfl⟩, Int.le_refl _, fun _ => fun _ => rfl⟩
      -- 2: ((0 ≤ (pk C n p 8)) ∧ ((pk C n p 8) < 8))
    · first | rfl | omega
      -- 3: (pk C n p 8) < 8
    · first | rfl | omega
    · refine ⟨rfl, rfl, ?_⟩
      intro c8
      -- 4: 0 ≤ (p + 1) ∧ (p + 1) ≤ 9999991
      first | rfl | omega
def c_one_8 (C : Int → Int) (n : Int) (p : Int) (L : Int → Int) : Cn Try.prog := ⟨_, _, _, _, _, one_8 C n p L⟩
theorem randomGraph (C : Int → Int) (n : Int) (p : Int) : RunsTo Try.prog 57 [(.ptr 0 2 (.lit 0) 0)] [some ⟨96, 2, true, (.lit [[(.sl 1 1 (.lit 0) (.v fun _ => n) 2000), (.int .i64 (.v fun _ => p) 0 9999900)]])⟩, some ⟨5, 1, false, (.sym (.v fun _ => n) fun e => [(.int .u8 (.v fun _ => (C (e.den))) 0 255)])⟩] (.agg [(.int .i64 (.v fun _ => rgM C n p) (-3) 3), (.int .i64 (.v fun _ => rgB C n p) (-4) 4)]) [some ⟨96, 2, true, (.lit [[(.sl 1 1 (.lit 0) (.v fun _ => n) 2000), (.int .i64 (.v fun _ => p + 1 + 1) 0 9999902)]])⟩, some ⟨5, 1, false, (.sym (.v fun _ => n) fun e => [(.int .u8 (.v fun _ => (C (e.den))) 0 255)])⟩] := by
  refine RunsTo.go env Try.func57 rfl Try.call57 rfl rfl (fun _ _ => (.call (c_pick_7 C n p) (.call (c_pick_9 C n (p + 1)) .ret))) (G := (True) → (((0 ≤ n ∧ n ≤ 2000) ∧ (0 ≤ p ∧ p ≤ 9999900)) ∧ (∀ e4 : E, ((0 ≤ e4.den ∧ e4.den < n) → (0 ≤ ((C (e4.den))) ∧ ((C (e4.den))) ≤ 255)))) → ((((n = n) ∧ (p = p)) ∧ ((n ≤ n) ∧ (∀ e1 : E, ((0 ≤ e1.den ∧ e1.den < n) → (((C (e1.den))) = ((C (e1.den)))))))) ∧ ((((n = n) ∧ (((p + 1) = (p + 1)) ∧ ((0 ≤ (p + 1) ∧ (p + 1) ≤ 10000001) → (0 ≤ (p + 1) ∧ (p + 1) ≤ 10000000)))) ∧ ((n ≤ n) ∧ (∀ e2 : E, ((0 ≤ e2.den ∧ e2.den < n) → (((C (e2.den))) = ((C (e2.den)))))))) ∧ (((((pk C n p 7) - 3) = (rgM C n p)) ∧ (((pk C n (p + 1) 9) - 4) = (rgB C n p))) ∧ (((n = n) ∧ ((((p + 1) + 1) = (p + 1 + 1)) ∧ ((0 ≤ ((p + 1) + 1) ∧ ((p + 1) + 1) ≤ 10000001) → (0 ≤ (p + 1 + 1) ∧ (p + 1 + 1) ≤ 9999902)))) ∧ ((n ≤ n) ∧ (∀ e3 : E, ((0 ≤ e3.den ∧ e3.den < n) → (((C (e3.den))) = ((C (e3.den)))))))))))) (by kernel_rfl) ?_
  intro h1 h2
  refine ⟨⟨⟨rfl, rfl⟩, ⟨Int.le_refl _, fun _ => fun _ => rfl⟩⟩, ?_, ?_, ?_, Int.le_refl _, fun _ => fun _ => rfl⟩
  · refine ⟨?_, Int.le_refl _, fun _ => fun _ => rfl⟩
    refine ⟨rfl, rfl, ?_⟩
    intro c5
    -- 1: 0 ≤ (p + 1) ∧ (p + 1) ≤ 10000000
    first | rfl | omega
  · refine ⟨?_, ?_⟩
      -- 2: ((pk C n p 7) - 3) = (rgM C n p)
    · first | rfl | omega
      -- 3: ((pk C n (p + 1) 9) - 4) = (rgB C n p)
    · first | rfl | omega
  · refine ⟨rfl, ?_, ?_⟩
      -- 4: ((p + 1) + 1) = (p + 1 + 1)
    · first | rfl | omega
    · intro c6
      -- 5: 0 ≤ (p + 1 + 1) ∧ (p + 1 + 1) ≤ 9999902
      first | rfl | omega
def c_randomGraph (C : Int → Int) (n : Int) (p : Int) : Cn Try.prog := ⟨_, _, _, _, _, randomGraph C n p⟩
theorem anyGraph (C : Int → Int) (n : Int) (p : Int) : RunsTo Try.prog 59 [(.ptr 0 2 (.lit 0) 0)] [some ⟨96, 2, true, (.lit [[(.sl 1 1 (.lit 0) (.v fun _ => n) 2000), (.int .i64 (.v fun _ => p) 0 9999800)]])⟩, some ⟨5, 1, false, (.sym (.v fun _ => n) fun e => [(.int .u8 (.v fun _ => (C (e.den))) 0 255)])⟩] (.agg [(.int .i64 (.v fun _ => agM C n p) (-1001) 1001), (.int .i64 (.v fun _ => agB C n p) (-1001) 1001)]) [some ⟨96, 2, true, (.lit [[(.sl 1 1 (.lit 0) (.v fun _ => n) 2000), (.int .i64 (.v fun _ => agP C n p) 0 9999804)]])⟩, some ⟨5, 1, false, (.sym (.v fun _ => n) fun e => [(.int .u8 (.v fun _ => (C (e.den))) 0 255)])⟩] := by
  refine RunsTo.go env Try.func59 rfl Try.call59 rfl rfl (fun _ _ => (.call (c_randomGraph C n p) (.call (c_pick_16 C n (p + 1 + 1)) (.ite (.call (c_one_3 C n ((p + 1 + 1) + 1) (selL [1001, (-1001), 1000])) .ret) (.ite (.call (c_one_3 C n ((p + 1 + 1) + 1) (selL [1001, (-1001), 1000])) .ret) .ret))))) (G := (True) → (((0 ≤ n ∧ n ≤ 2000) ∧ (0 ≤ p ∧ p ≤ 9999800)) ∧ (∀ e14 : E, ((0 ≤ e14.den ∧ e14.den < n) → (0 ≤ ((C (e14.den))) ∧ ((C (e14.den))) ≤ 255)))) → ((((n = n) ∧ (p = p)) ∧ ((n ≤ n) ∧ (∀ e1 : E, ((0 ≤ e1.den ∧ e1.den < n) → (((C (e1.den))) = ((C (e1.den)))))))) ∧ ((((n = n) ∧ ((p + 1 + 1) = (p + 1 + 1))) ∧ ((n ≤ n) ∧ (∀ e2 : E, ((0 ≤ e2.den ∧ e2.den < n) → (((C (e2.den))) = ((C (e2.den)))))))) ∧ ((((pk C n (p + 1 + 1) 16) = 0) → ((((n = n) ∧ ((((p + 1 + 1) + 1) = ((p + 1 + 1) + 1)) ∧ ((0 ≤ ((p + 1 + 1) + 1) ∧ ((p + 1 + 1) + 1) ≤ 10000001) → (0 ≤ ((p + 1 + 1) + 1) ∧ ((p + 1 + 1) + 1) ≤ 9999990)))) ∧ (((∀ e6 : E, ((e6.den = 0) → ((1001 : Int) = (selL [1001, (-1001), 1000] (e6.den))))) ∧ ((∀ e5 : E, ((e5.den = 1) → (((-1001) : Int) = (selL [1001, (-1001), 1000] (e5.den))))) ∧ (∀ e4 : E, ((e4.den = 2) → ((1000 : Int) = (selL [1001, (-1001), 1000] (e4.den))))))) ∧ ((n ≤ n) ∧ (∀ e3 : E, ((0 ≤ e3.den ∧ e3.den < n) → (((C (e3.den))) = ((C (e3.den))))))))) ∧ (((((selL [1001, (-1001), 1000] (pk C n ((p + 1 + 1) + 1) 3))) = (agM C n p)) ∧ ((rgB C n p) = (agB C n p))) ∧ (((n = n) ∧ (((((p + 1 + 1) + 1) + 1) = (agP C n p)) ∧ ((0 ≤ (((p + 1 + 1) + 1) + 1) ∧ (((p + 1 + 1) + 1) + 1) ≤ 9999991) → (0 ≤ (agP C n p) ∧ (agP C n p) ≤ 9999804)))) ∧ ((n ≤ n) ∧ (∀ e7 : E, ((0 ≤ e7.den ∧ e7.den < n) → (((C (e7.den))) = ((C (e7.den))))))))))) ∧ (((pk C n (p + 1 + 1) 16) ≠ 0) → ((((pk C n (p + 1 + 1) 16) = 1) → ((((n = n) ∧ ((((p + 1 + 1) + 1) = ((p + 1 + 1) + 1)) ∧ ((0 ≤ ((p + 1 + 1) + 1) ∧ ((p + 1 + 1) + 1) ≤ 10000001) → (0 ≤ ((p + 1 + 1) + 1) ∧ ((p + 1 + 1) + 1) ≤ 9999990)))) ∧ (((∀ e11 : E, ((e11.den = 0) → ((1001 : Int) = (selL [1001, (-1001), 1000] (e11.den))))) ∧ ((∀ e10 : E, ((e10.den = 1) → (((-1001) : Int) = (selL [1001, (-1001), 1000] (e10.den))))) ∧ (∀ e9 : E, ((e9.den = 2) → ((1000 : Int) = (selL [1001, (-1001), 1000] (e9.den))))))) ∧ ((n ≤ n) ∧ (∀ e8 : E, ((0 ≤ e8.den ∧ e8.den < n) → (((C (e8.den))) = ((C (e8.den))))))))) ∧ ((((rgM C n p) = (agM C n p)) ∧ (((selL [1001, (-1001), 1000] (pk C n ((p + 1 + 1) + 1) 3))) = (agB C n p))) ∧ (((n = n) ∧ (((((p + 1 + 1) + 1) + 1) = (agP C n p)) ∧ ((0 ≤ (((p + 1 + 1) + 1) + 1) ∧ (((p + 1 + 1) + 1) + 1) ≤ 9999991) → (0 ≤ (agP C n p) ∧ (agP C n p) ≤ 9999804)))) ∧ ((n ≤ n) ∧ (∀ e12 : E, ((0 ≤ e12.den ∧ e12.den < n) → (((C (e12.den))) = ((C (e12.den))))))))))) ∧ (((pk C n (p + 1 + 1) 16) ≠ 1) → ((((rgM C n p) = (agM C n p)) ∧ ((rgB C n p) = (agB C n p))) ∧ (((n = n) ∧ ((((p + 1 + 1) + 1) = (agP C n p)) ∧ ((0 ≤ ((p + 1 + 1) + 1) ∧ ((p + 1 + 1) + 1) ≤ 10000001) → (0 ≤ (agP C n p) ∧ (agP C n p) ≤ 9999804)))) ∧ ((n ≤ n) ∧ (∀ e13 : E, ((0 ≤ e13.den ∧ e13.den < n) → (((C (e13.den))) = ((C (e13.den)))))))))))))))) (by kernel_rfl) ?_
  intro h1 h2
  refine ⟨⟨⟨rfl, rfl⟩, ⟨Int.le_refl _, fun _ => fun _ => rfl⟩⟩, ⟨⟨rfl, rfl⟩, ⟨Int.le_refl _, fun _ => fun _ => rfl⟩⟩, ?_, ?_⟩
  · intro c15
    refine ⟨?_, ?_, ?_, Int.le_refl _, fun _ => fun _ => rfl⟩
    · refine ⟨?_, ?_, Int.le_refl _, fun _ => fun _ => rfl⟩
      · refine ⟨rfl, rfl, ?_⟩
        intro c16
        -- 1: 0 ≤ ((p + 1 + 1) + 1) ∧ ((p + 1 + 1) + 1) ≤ 9999990
        first | rfl | omega | (simp_all [selL]; done) | (simp_all [agM, agB, agP, oneG]; done) | (simp_all [agM, agB, agP, oneG]; omega)
      · refine ⟨?_, ?_, ?_⟩
        · intro e6
          intro c17
          -- 2: (1001 : Int) = (selL [1001, (-1001), 1000] (e6.den))
          first | rfl | omega | (simp_all [selL]; done) | (simp_all [agM, agB, agP, oneG]; done) | (simp_all [agM, agB, agP, oneG]; omega)
        · intro e5
          intro c18
          -- 3: ((-1001) : Int) = (selL [1001, (-1001), 1000] (e5.den))
          first | rfl | omega | (simp_all [selL]; done) | (simp_all [agM, agB, agP, oneG]; done) | (simp_all [agM, agB, agP, oneG]; omega)
        · intro e4
          intro c19
          -- 4: (1000 : Int) = (selL [1001, (-1001), 1000] (e4.den))
          first | rfl | omega | (simp_all [selL]; done) | (simp_all [agM, agB, agP, oneG]; done) | (simp_all [agM, agB, agP, oneG]; omega)
    · refine ⟨?_, ?_⟩
        -- 5: ((selL [1001, (-1001), 1000] (pk C n ((p + 1 + 1) + 1) 3))) = (agM C n p)
      · first | rfl | omega | (simp_all [selL]; done) | (simp_all [agM, agB, agP, oneG]; done) | (simp_all [agM, agB, agP, oneG]; omega)
        -- 6: (rgB C n p) = (agB C n p)
      · first | rfl | omega | (simp_all [selL]; done) | (simp_all [agM, agB, agP, oneG]; done) | (simp_all [agM, agB, agP, oneG]; omega)
    · refine ⟨rfl, ?_, ?_⟩
        -- 7: (((p + 1 + 1) + 1) + 1) = (agP C n p)
      · first | rfl | omega | (simp_all [selL]; done) | (simp_all [agM, agB, agP, oneG]; done) | (simp_all [agM, agB, agP, oneG]; omega)
      · intro c20
        -- 8: 0 ≤ (agP C n p) ∧ (agP C n p) ≤ 9999804
        first | rfl | omega | (simp_all [selL]; done) | (simp_all [agM, agB, agP, oneG]; done) | (simp_all [agM, agB, agP, oneG]; omega)
  · intro c21
    refine ⟨?_, ?_⟩
    · intro c22
      refine ⟨?_, ?_, ?_, Int.le_refl _, fun _ => fun _ => rfl⟩
      · refine ⟨?_, ?_, Int.le_refl _, fun _ => fun _ => rfl⟩
        · refine ⟨rfl, rfl, ?_⟩
          intro c23
          -- 9: 0 ≤ ((p + 1 + 1) + 1) ∧ ((p + 1 + 1) + 1) ≤ 9999990
          first | rfl | omega | (simp_all [selL]; done) | (simp_all [agM, agB, agP, oneG]; done) | (simp_all [agM, agB, agP, oneG]; omega)
        · refine ⟨?_, ?_, ?_⟩
          · intro e11
            intro c24
            -- 10: (1001 : Int) = (selL [1001, (-1001), 1000] (e11.den))
            first | rfl | omega | (simp_all [selL]; done) | (simp_all [agM, agB, agP, oneG]; done) | (simp_all [agM, agB, agP, oneG]; omega)
          · intro e10
            intro c25
            -- 11: ((-1001) : Int) = (selL [1001, (-1001), 1000] (e10.den))
            first | rfl | omega | (simp_all [selL]; done) | (simp_all [agM, agB, agP, oneG]; done) | (simp_all [agM, agB, agP, oneG]; omega)
          · intro e9
            intro c26
            -- 12: (1000 : Int) = (selL [1001, (-1001), 1000] (e9.den))
            first | rfl | omega | (simp_all [selL]; done) | (simp_all [agM, agB, agP, oneG]; done) | (simp_all [agM, agB, agP, oneG]; omega)
      · refine ⟨?_, ?_⟩
          -- 13: (rgM C n p) = (agM C n p)
        · first | rfl | omega | (simp_all [selL]; done) | (simp_all [agM, agB, agP, oneG]; done) | (simp_all [agM, agB, agP, oneG]; omega)
          -- 14: ((selL [1001, (-1001), 1000] (pk C n ((p + 1 + 1) + 1) 3))) = (agB C n p)
        · first | rfl | omega | (simp_all [selL]; done) | (simp_all [agM, agB, agP, oneG]; done) | (simp_all [agM, agB, agP, oneG]; omega)
      · refine ⟨rfl, ?_, ?_⟩
          -- 15: (((p + 1 + 1) + 1) + 1) = (agP C n p)
        · first | rfl | omega | (simp_all [selL]; done) | (simp_all [agM, agB, agP, oneG]; done) | (simp_all [agM, agB, agP, oneG]; omega)
        · intro c27
          -- 16: 0 ≤ (agP C n p) ∧ (agP C n p) ≤ 9999804
          first | rfl | omega | (simp_all [selL]; done) | (simp_all [agM, agB, agP, oneG]; done) | (simp_all [agM, agB, agP, oneG]; omega)
    · intro c28
      refine ⟨?_, ?_, Int.le_refl _, fun _ => fun _ => rfl⟩
      · refine ⟨?_, ?_⟩
          -- 17: (rgM C n p) = (agM C n p)
        · first | rfl | omega | (simp_all [selL]; done) | (simp_all [agM, agB, agP, oneG]; done) | (simp_all [agM, agB, agP, oneG]; omega)
          -- 18: (rgB C n p) = (agB C n p)
        · first | rfl | omega | (simp_all [selL]; done) | (simp_all [agM, agB, agP, oneG]; done) | (simp_all [agM, agB, agP, oneG]; omega)
      · refine ⟨rfl, ?_, ?_⟩
          -- 19: ((p + 1 + 1) + 1) = (agP C n p)
        · first | rfl | omega | (simp_all [selL]; done) | (simp_all [agM, agB, agP, oneG]; done) | (simp_all [agM, agB, agP, oneG]; omega)
        · intro c29
          -- 20: 0 ≤ (agP C n p) ∧ (agP C n p) ≤ 9999804
          first | rfl | omega | (simp_all [selL]; done) | (simp_all [agM, agB, agP, oneG]; done) | (simp_all [agM, agB, agP, oneG]; omega)
def c_anyGraph (C : Int → Int) (n : Int) (p : Int) : Cn Try.prog := ⟨_, _, _, _, _, anyGraph C n p⟩
theorem anyGraphs (C : Int → Int) (n : Int) (p : Int) : Runs Try.prog 30 [(.ptr 0 2 (.lit 0) 0)] [some ⟨96, 2, true, (.lit [[(.sl 1 1 (.lit 0) (.v fun _ => n) 2000), (.int .i64 (.v fun _ => p) 0 9990000)]])⟩, some ⟨5, 1, false, (.sym (.v fun _ => n) fun e => [(.int .u8 (.v fun _ => (C (e.den))) 0 255)])⟩] fun r m => ∃ x : (Int → Int) × (Int → Int) × Int × Int, (0 ≤ x.2.2.1 ∧ x.2.2.1 ≤ 9) ∧ r = (.sl 2 2 (.lit 0) (.v fun _ => x.2.2.1) 9) ∧ m = [some ⟨96, 2, true, (.lit [[(.sl 1 1 (.lit 0) (.v fun _ => n) 2000), (.int .i64 (.v fun _ => x.2.2.2) 0 9999900)]])⟩, some ⟨5, 1, false, (.sym (.v fun _ => n) fun e => [(.int .u8 (.v fun _ => (C (e.den))) 0 255)])⟩, some ⟨35, 2, true, (.sym (.v fun _ => x.2.2.1) fun e => [(.int .i64 (.v fun _ => (x.1 (e.den))) (-1001) 1001), (.int .i64 (.v fun _ => (x.2.1 (e.den))) (-1001) 1001)])⟩] := by
  refine RunsX.go (X := (Int → Int) × (Int → Int) × Int × Int) (I := (fun x => 0 ≤ x.2.2.1 ∧ x.2.2.1 ≤ 9)) (R := (fun x => (.sl 2 2 (.lit 0) (.v fun _ => x.2.2.1) 9))) (M := (fun x => [some ⟨96, 2, true, (.lit [[(.sl 1 1 (.lit 0) (.v fun _ => n) 2000), (.int .i64 (.v fun _ => x.2.2.2) 0 9999900)]])⟩, some ⟨5, 1, false, (.sym (.v fun _ => n) fun e => [(.int .u8 (.v fun _ => (C (e.den))) 0 255)])⟩, some ⟨35, 2, true, (.sym (.v fun _ => x.2.2.1) fun e => [(.int .i64 (.v fun _ => (x.1 (e.den))) (-1001) 1001), (.int .i64 (.v fun _ => (x.2.1 (e.den))) (-1001) 1001)])⟩])) env Try.func30 rfl Try.call30 rfl rfl (fun _ _ => (.callF (c_one_8 C n p (selL [0, 1, 2, 3, 4, 5, 6, 9])) (.loop [] [0, 1, 2] ((Int → Int) × (Int → Int) × Int × Int × Int) (fun x10 => ⟨spl 57 0 [(0, (.ptr 0 2 (.lit 0) 0)), (2, (.raw (.slice none 0 0))), (3, (.sl 2 2 (.lit 0) (.v fun _ => x10.2.2.1) 9)), (4, (.int .i64 (.v fun _ => x10.2.2.2.2) 0 9))], [some ⟨96, 2, true, (.lit [[(.sl 1 1 (.lit 0) (.v fun _ => n) 2000), (.int .i64 (.v fun _ => x10.2.2.2.1) 0 9999000)]])⟩, some ⟨5, 1, false, (.sym (.v fun _ => n) fun e => [(.int .u8 (.v fun _ => ((C (e.den)))) 0 255)])⟩, some ⟨35, 2, true, (.sym (.v fun _ => x10.2.2.1) fun e => [(.int .i64 (.v fun _ => (x10.1 (e.den))) (-1001) 1001), (.int .i64 (.v fun _ => (x10.2.1 (e.den))) (-1001) 1001)])⟩], 2⟩) (fun x10 => (0 ≤ x10.2.2.1 ∧ x10.2.2.1 + x10.2.2.2.2 ≤ 9) ∧ (0 ≤ x10.2.2.2.2 ∧ x10.2.2.2.2 ≤ 9) ∧ p ≤ x10.2.2.2.1 ∧ x10.2.2.2.1 + 3 * x10.2.2.2.2 ≤ p + 28) (fun x10 => x10.2.2.2.2.toNat) fun x10 => (.ite (.callF (c_randomGraph C n x10.2.2.2.1) (.loop [] [0, 1, 2, 3] (Bool × Int) (fun x14 => ⟨spl 57 0 [(0, (.ptr 0 2 (.lit 0) 0)), (2, (.raw (.slice none 0 0))), (3, (.sl 2 2 (.lit 0) (.v fun _ => x10.2.2.1) 9)), (4, (.int .i64 (.v fun _ => x10.2.2.2.2) 0 9)), (5, (.ptr 3 2 (.lit 0) 0)), (6, (.bool (.v fun _ => x14.1))), (7, (.int .i64 (.v fun _ => x14.2) 0 9)), (12, (.int .i64 (.v fun _ => x10.2.2.2.2) 0 9)), (13, (.bool (.lt (.lit 0) (.v fun _ => x10.2.2.2.2)))), (16, (.ptr 0 2 (.lit 0) 0)), (17, (.agg [(.int .i64 (.v fun _ => rgM C n x10.2.2.2.1) (-3) 3), (.int .i64 (.v fun _ => rgB C n x10.2.2.2.1) (-4) 4)]))], [some ⟨96, 2, true, (.lit [[(.sl 1 1 (.lit 0) (.v fun _ => n) 2000), (.int .i64 (.v fun _ => x10.2.2.2.1 + 1 + 1) 0 9999902)]])⟩, some ⟨5, 1, false, (.sym (.v fun _ => n) fun e => [(.int .u8 (.v fun _ => ((C (e.den)))) 0 255)])⟩, some ⟨35, 2, true, (.sym (.v fun _ => x10.2.2.1) fun e => [(.int .i64 (.v fun _ => (x10.1 (e.den))) (-1001) 1001), (.int .i64 (.v fun _ => (x10.2.1 (e.den))) (-1001) 1001)])⟩, some ⟨35, 2, true, (.lit [[(.int .i64 (.v fun _ => rgM C n x10.2.2.2.1) (-3) 3), (.int .i64 (.v fun _ => rgB C n x10.2.2.2.1) (-4) 4)]])⟩], 2⟩) (fun x14 => (0 ≤ x14.2 ∧ x14.2 ≤ x10.2.2.1) ∧ (0 ≤ x10.2.2.1 ∧ x10.2.2.1 + x10.2.2.2.2 ≤ 9) ∧ (1 ≤ x10.2.2.2.2 ∧ x10.2.2.2.2 ≤ 9) ∧ p ≤ x10.2.2.2.1 ∧ x10.2.2.2.1 + 3 * x10.2.2.2.2 ≤ p + 28) (fun x14 => (x10.2.2.1 - x14.2).toNat) fun x14 => (.ite (.ite (.next [0, 1, 2, 3]) (.need (.need (.next [0, 1, 2, 3])))) (.out (.ite (.need (.next [0, 1, 2])) (.callF (c_pick_10 C n (x10.2.2.2.1 + 1 + 1)) (.ite (.need (.next [0, 1, 2])) (.next [0, 1, 2])))))))) (.out (.ite (.callF (c_pick_14 C n x10.2.2.2.1) (.ite (.callF (c_anyGraph C n (x10.2.2.2.1 + 1)) (.need (.need .ret))) .ret)) .ret)))))) (G := (True) → (((0 ≤ n ∧ n ≤ 2000) ∧ (0 ≤ p ∧ p ≤ 9990000)) ∧ (∀ e48 : E, ((0 ≤ e48.den ∧ e48.den < n) → (0 ≤ ((C (e48.den))) ∧ ((C (e48.den))) ≤ 255)))) → ((((n = n) ∧ (p = p)) ∧ (((∀ e9 : E, ((e9.den = 0) → ((0 : Int) = (selL [0, 1, 2, 3, 4, 5, 6, 9] (e9.den))))) ∧ ((∀ e8 : E, ((e8.den = 1) → ((1 : Int) = (selL [0, 1, 2, 3, 4, 5, 6, 9] (e8.den))))) ∧ ((∀ e7 : E, ((e7.den = 2) → ((2 : Int) = (selL [0, 1, 2, 3, 4, 5, 6, 9] (e7.den))))) ∧ ((∀ e6 : E, ((e6.den = 3) → ((3 : Int) = (selL [0, 1, 2, 3, 4, 5, 6, 9] (e6.den))))) ∧ ((∀ e5 : E, ((e5.den = 4) → ((4 : Int) = (selL [0, 1, 2, 3, 4, 5, 6, 9] (e5.den))))) ∧ ((∀ e4 : E, ((e4.den = 5) → ((5 : Int) = (selL [0, 1, 2, 3, 4, 5, 6, 9] (e4.den))))) ∧ ((∀ e3 : E, ((e3.den = 6) → ((6 : Int) = (selL [0, 1, 2, 3, 4, 5, 6, 9] (e3.den))))) ∧ (∀ e2 : E, ((e2.den = 7) → ((9 : Int) = (selL [0, 1, 2, 3, 4, 5, 6, 9] (e2.den)))))))))))) ∧ ((n ≤ n) ∧ (∀ e1 : E, ((0 ≤ e1.den ∧ e1.den < n) → (((C (e1.den))) = ((C (e1.den))))))))) ∧ ((0 ≤ (selL [0, 1, 2, 3, 4, 5, 6, 9] (pk C n p 8)) ∧ (selL [0, 1, 2, 3, 4, 5, 6, 9] (pk C n p 8)) ≤ 9) → ((∃ y11 : (Int → Int) × (Int → Int) × Int × Int × Int, (((0 ≤ y11.2.2.1 ∧ y11.2.2.1 + y11.2.2.2.2 ≤ 9) ∧ (0 ≤ y11.2.2.2.2 ∧ y11.2.2.2.2 ≤ 9) ∧ p ≤ y11.2.2.2.1 ∧ y11.2.2.2.1 + 3 * y11.2.2.2.2 ≤ p + 28) ∧ (((((.slice none 0 0) : Value) = (.slice none 0 0)) ∧ (((0 : Int) = y11.2.2.1) ∧ ((selL [0, 1, 2, 3, 4, 5, 6, 9] (pk C n p 8)) = y11.2.2.2.2))) ∧ (((n = n) ∧ (((p + 1) = y11.2.2.2.1) ∧ ((0 ≤ (p + 1) ∧ (p + 1) ≤ 9999991) → (0 ≤ y11.2.2.2.1 ∧ y11.2.2.2.1 ≤ 9999000)))) ∧ (((n ≤ n) ∧ (∀ e12 : E, ((0 ≤ e12.den ∧ e12.den < n) → (((C (e12.den))) = ((C (e12.den))))))) ∧ (y11.2.2.1 = 0)))))) ∧ (∀ x10 : (Int → Int) × (Int → Int) × Int × Int × Int, (((0 ≤ x10.2.2.1 ∧ x10.2.2.1 + x10.2.2.2.2 ≤ 9) ∧ (0 ≤ x10.2.2.2.2 ∧ x10.2.2.2.2 ≤ 9) ∧ p ≤ x10.2.2.2.1 ∧ x10.2.2.2.1 + 3 * x10.2.2.2.2 ≤ p + 28) → (((0 < x10.2.2.2.2) → ((((n = n) ∧ (x10.2.2.2.1 = x10.2.2.2.1)) ∧ ((n ≤ n) ∧ (∀ e13 : E, ((0 ≤ e13.den ∧ e13.den < n) → (((C (e13.den))) = ((C (e13.den)))))))) ∧ ((((-3) ≤ (rgM C n x10.2.2.2.1) ∧ (rgM C n x10.2.2.2.1) ≤ 3) ∧ ((-4) ≤ (rgB C n x10.2.2.2.1) ∧ (rgB C n x10.2.2.2.1) ≤ 4)) → ((∃ y15 : Bool × Int, (((0 ≤ y15.2 ∧ y15.2 ≤ x10.2.2.1) ∧ (0 ≤ x10.2.2.1 ∧ x10.2.2.1 + x10.2.2.2.2 ≤ 9) ∧ (1 ≤ x10.2.2.2.2 ∧ x10.2.2.2.2 ≤ 9) ∧ p ≤ x10.2.2.2.1 ∧ x10.2.2.2.1 + 3 * x10.2.2.2.2 ≤ p + 28) ∧ (((((.slice none 0 0) : Value) = (.slice none 0 0)) ∧ ((x10.2.2.1 = x10.2.2.1) ∧ ((x10.2.2.2.2 = x10.2.2.2.2) ∧ ((y15.1 = false) ∧ (((0 : Int) = y15.2) ∧ ((x10.2.2.2.2 = x10.2.2.2.2) ∧ (((0 < x10.2.2.2.2) ↔ (0 < x10.2.2.2.2)) ∧ (((rgM C n x10.2.2.2.1) = (rgM C n x10.2.2.2.1)) ∧ ((rgB C n x10.2.2.2.1) = (rgB C n x10.2.2.2.1)))))))))) ∧ (((n = n) ∧ ((x10.2.2.2.1 + 1 + 1) = (x10.2.2.2.1 + 1 + 1))) ∧ (((n ≤ n) ∧ (∀ e17 : E, ((0 ≤ e17.den ∧ e17.den < n) → (((C (e17.den))) = ((C (e17.den))))))) ∧ (((x10.2.2.1 ≤ x10.2.2.1) ∧ (∀ e16 : E, ((0 ≤ e16.den ∧ e16.den < x10.2.2.1) → ((((x10.1 (e16.den))) = ((x10.1 (e16.den)))) ∧ (((x10.2.1 (e16.den))) = ((x10.2.1 (e16.den)))))))) ∧ (((rgM C n x10.2.2.2.1) = (rgM C n x10.2.2.2.1)) ∧ ((rgB C n x10.2.2.2.1) = (rgB C n x10.2.2.2.1))))))))) ∧ (∀ x14 : Bool × Int, (((0 ≤ x14.2 ∧ x14.2 ≤ x10.2.2.1) ∧ (0 ≤ x10.2.2.1 ∧ x10.2.2.1 + x10.2.2.2.2 ≤ 9) ∧ (1 ≤ x10.2.2.2.2 ∧ x10.2.2.2.2 ≤ 9) ∧ p ≤ x10.2.2.2.1 ∧ x10.2.2.2.1 + 3 * x10.2.2.2.2 ≤ p + 28) → (((x14.2 < x10.2.2.1) → (((x14.1 = true) → (∃ y18 : Bool × Int, (((0 ≤ y18.2 ∧ y18.2 ≤ x10.2.2.1) ∧ (0 ≤ x10.2.2.1 ∧ x10.2.2.1 + x10.2.2.2.2 ≤ 9) ∧ (1 ≤ x10.2.2.2.2 ∧ x10.2.2.2.2 ≤ 9) ∧ p ≤ x10.2.2.2.1 ∧ x10.2.2.2.1 + 3 * x10.2.2.2.2 ≤ p + 28) ∧ ((((((.slice none 0 0) : Value) = (.slice none 0 0)) ∧ ((x10.2.2.1 = x10.2.2.1) ∧ ((x10.2.2.2.2 = x10.2.2.2.2) ∧ ((y18.1 = true) ∧ ((((x14.2 + 1) = y18.2) ∧ ((1 ≤ (x14.2 + 1) ∧ (x14.2 + 1) ≤ 10) → (0 ≤ y18.2 ∧ y18.2 ≤ 9))) ∧ ((x10.2.2.2.2 = x10.2.2.2.2) ∧ (((0 < x10.2.2.2.2) ↔ (0 < x10.2.2.2.2)) ∧ (((rgM C n x10.2.2.2.1) = (rgM C n x10.2.2.2.1)) ∧ ((rgB C n x10.2.2.2.1) = (rgB C n x10.2.2.2.1)))))))))) ∧ (((n = n) ∧ ((x10.2.2.2.1 + 1 + 1) = (x10.2.2.2.1 + 1 + 1))) ∧ (((n ≤ n) ∧ (∀ e20 : E, ((0 ≤ e20.den ∧ e20.den < n) → (((C (e20.den))) = ((C (e20.den))))))) ∧ (((x10.2.2.1 ≤ x10.2.2.1) ∧ (∀ e19 : E, ((0 ≤ e19.den ∧ e19.den < x10.2.2.1) → ((((x10.1 (e19.den))) = ((x10.1 (e19.den)))) ∧ (((x10.2.1 (e19.den))) = ((x10.2.1 (e19.den)))))))) ∧ (((rgM C n x10.2.2.2.1) = (rgM C n x10.2.2.2.1)) ∧ ((rgB C n x10.2.2.2.1) = (rgB C n x10.2.2.2.1))))))) ∧ ((x10.2.2.1 - y18.2).toNat < (x10.2.2.1 - x14.2).toNat))))) ∧ ((x14.1 = false) → ((((0 ≤ x14.2) ∧ (x14.2 < x10.2.2.1))) ∧ ((x14.2 < x10.2.2.1) ∧ (∃ y21 : Bool × Int, (((0 ≤ y21.2 ∧ y21.2 ≤ x10.2.2.1) ∧ (0 ≤ x10.2.2.1 ∧ x10.2.2.1 + x10.2.2.2.2 ≤ 9) ∧ (1 ≤ x10.2.2.2.2 ∧ x10.2.2.2.2 ≤ 9) ∧ p ≤ x10.2.2.2.1 ∧ x10.2.2.2.1 + 3 * x10.2.2.2.2 ≤ p + 28) ∧ ((((((.slice none 0 0) : Value) = (.slice none 0 0)) ∧ ((x10.2.2.1 = x10.2.2.1) ∧ ((x10.2.2.2.2 = x10.2.2.2.2) ∧ (((((((x10.1 (x14.2))) = (rgM C n x10.2.2.2.1)) ∧ (((x10.2.1 (x14.2))) = (rgB C n x10.2.2.2.1)))) ↔ (y21.1 = true)) ∧ ((((x14.2 + 1) = y21.2) ∧ ((1 ≤ (x14.2 + 1) ∧ (x14.2 + 1) ≤ 10) → (0 ≤ y21.2 ∧ y21.2 ≤ 9))) ∧ ((x10.2.2.2.2 = x10.2.2.2.2) ∧ (((0 < x10.2.2.2.2) ↔ (0 < x10.2.2.2.2)) ∧ (((rgM C n x10.2.2.2.1) = (rgM C n x10.2.2.2.1)) ∧ ((rgB C n x10.2.2.2.1) = (rgB C n x10.2.2.2.1)))))))))) ∧ (((n = n) ∧ ((x10.2.2.2.1 + 1 + 1) = (x10.2.2.2.1 + 1 + 1))) ∧ (((n ≤ n) ∧ (∀ e23 : E, ((0 ≤ e23.den ∧ e23.den < n) → (((C (e23.den))) = ((C (e23.den))))))) ∧ (((x10.2.2.1 ≤ x10.2.2.1) ∧ (∀ e22 : E, ((0 ≤ e22.den ∧ e22.den < x10.2.2.1) → ((((x10.1 (e22.den))) = ((x10.1 (e22.den)))) ∧ (((x10.2.1 (e22.den))) = ((x10.2.1 (e22.den)))))))) ∧ (((rgM C n x10.2.2.2.1) = (rgM C n x10.2.2.2.1)) ∧ ((rgB C n x10.2.2.2.1) = (rgB C n x10.2.2.2.1))))))) ∧ ((x10.2.2.1 - y21.2).toNat < (x10.2.2.1 - x14.2).toNat))))))))) ∧ ((x10.2.2.1 ≤ x14.2) → (((x14.1 = false) → ((x10.2.2.1 = x10.2.2.1) ∧ (∃ y24 : (Int → Int) × (Int → Int) × Int × Int × Int, (((0 ≤ y24.2.2.1 ∧ y24.2.2.1 + y24.2.2.2.2 ≤ 9) ∧ (0 ≤ y24.2.2.2.2 ∧ y24.2.2.2.2 ≤ 9) ∧ p ≤ y24.2.2.2.1 ∧ y24.2.2.2.1 + 3 * y24.2.2.2.2 ≤ p + 28) ∧ ((((((.slice none 0 0) : Value) = (.slice none 0 0)) ∧ ((((x10.2.2.1 + 1) = y24.2.2.1) ∧ (((x10.2.2.1 + 1) ≤ 10) → (y24.2.2.1 ≤ 9))) ∧ (((x10.2.2.2.2 - 1) = y24.2.2.2.2) ∧ (((-1) ≤ (x10.2.2.2.2 - 1) ∧ (x10.2.2.2.2 - 1) ≤ 8) → (0 ≤ y24.2.2.2.2 ∧ y24.2.2.2.2 ≤ 9))))) ∧ (((n = n) ∧ (((x10.2.2.2.1 + 1 + 1) = y24.2.2.2.1) ∧ ((0 ≤ (x10.2.2.2.1 + 1 + 1) ∧ (x10.2.2.2.1 + 1 + 1) ≤ 9999902) → (0 ≤ y24.2.2.2.1 ∧ y24.2.2.2.1 ≤ 9999000)))) ∧ (((n ≤ n) ∧ (∀ e27 : E, ((0 ≤ e27.den ∧ e27.den < n) → (((C (e27.den))) = ((C (e27.den))))))) ∧ (((0 : Int) ≤ x10.2.2.1 ∧ y24.2.2.1 = x10.2.2.1 + 1) ∧ (((x10.2.2.1 ≤ x10.2.2.1) ∧ (∀ e26 : E, ((0 ≤ e26.den ∧ e26.den < x10.2.2.1) → ((((x10.1 (e26.den))) = ((y24.1 (e26.den)))) ∧ (((x10.2.1 (e26.den))) = ((y24.2.1 (e26.den)))))))) ∧ (∀ e25 : E, ((e25.den = x10.2.2.1) → (((rgM C n x10.2.2.2.1) = ((y24.1 (e25.den)))) ∧ ((rgB C n x10.2.2.2.1) = ((y24.2.1 (e25.den)))))))))))) ∧ (y24.2.2.2.2.toNat < x10.2.2.2.2.toNat)))))) ∧ ((x14.1 = true) → ((((n = n) ∧ ((x10.2.2.2.1 + 1 + 1) = (x10.2.2.2.1 + 1 + 1))) ∧ ((n ≤ n) ∧ (∀ e28 : E, ((0 ≤ e28.den ∧ e28.den < n) → (((C (e28.den))) = ((C (e28.den)))))))) ∧ ((0 ≤ (pk C n (x10.2.2.2.1 + 1 + 1) 10) ∧ (pk C n (x10.2.2.2.1 + 1 + 1) 10) ≤ 9) → ((((pk C n (x10.2.2.2.1 + 1 + 1) 10) = 0) → ((x10.2.2.1 = x10.2.2.1) ∧ (∃ y29 : (Int → Int) × (Int → Int) × Int × Int × Int, (((0 ≤ y29.2.2.1 ∧ y29.2.2.1 + y29.2.2.2.2 ≤ 9) ∧ (0 ≤ y29.2.2.2.2 ∧ y29.2.2.2.2 ≤ 9) ∧ p ≤ y29.2.2.2.1 ∧ y29.2.2.2.1 + 3 * y29.2.2.2.2 ≤ p + 28) ∧ ((((((.slice none 0 0) : Value) = (.slice none 0 0)) ∧ ((((x10.2.2.1 + 1) = y29.2.2.1) ∧ (((x10.2.2.1 + 1) ≤ 10) → (y29.2.2.1 ≤ 9))) ∧ (((x10.2.2.2.2 - 1) = y29.2.2.2.2) ∧ (((-1) ≤ (x10.2.2.2.2 - 1) ∧ (x10.2.2.2.2 - 1) ≤ 8) → (0 ≤ y29.2.2.2.2 ∧ y29.2.2.2.2 ≤ 9))))) ∧ (((n = n) ∧ ((((x10.2.2.2.1 + 1 + 1) + 1) = y29.2.2.2.1) ∧ ((0 ≤ ((x10.2.2.2.1 + 1 + 1) + 1) ∧ ((x10.2.2.2.1 + 1 + 1) + 1) ≤ 10000001) → (0 ≤ y29.2.2.2.1 ∧ y29.2.2.2.1 ≤ 9999000)))) ∧ (((n ≤ n) ∧ (∀ e32 : E, ((0 ≤ e32.den ∧ e32.den < n) → (((C (e32.den))) = ((C (e32.den))))))) ∧ (((0 : Int) ≤ x10.2.2.1 ∧ y29.2.2.1 = x10.2.2.1 + 1) ∧ (((x10.2.2.1 ≤ x10.2.2.1) ∧ (∀ e31 : E, ((0 ≤ e31.den ∧ e31.den < x10.2.2.1) → ((((x10.1 (e31.den))) = ((y29.1 (e31.den)))) ∧ (((x10.2.1 (e31.den))) = ((y29.2.1 (e31.den)))))))) ∧ (∀ e30 : E, ((e30.den = x10.2.2.1) → (((rgM C n x10.2.2.2.1) = ((y29.1 (e30.den)))) ∧ ((rgB C n x10.2.2.2.1) = ((y29.2.1 (e30.den)))))))))))) ∧ (y29.2.2.2.2.toNat < x10.2.2.2.2.toNat)))))) ∧ (((pk C n (x10.2.2.2.1 + 1 + 1) 10) ≠ 0) → (∃ y33 : (Int → Int) × (Int → Int) × Int × Int × Int, (((0 ≤ y33.2.2.1 ∧ y33.2.2.1 + y33.2.2.2.2 ≤ 9) ∧ (0 ≤ y33.2.2.2.2 ∧ y33.2.2.2.2 ≤ 9) ∧ p ≤ y33.2.2.2.1 ∧ y33.2.2.2.1 + 3 * y33.2.2.2.2 ≤ p + 28) ∧ ((((((.slice none 0 0) : Value) = (.slice none 0 0)) ∧ ((x10.2.2.1 = y33.2.2.1) ∧ (((x10.2.2.2.2 - 1) = y33.2.2.2.2) ∧ (((-1) ≤ (x10.2.2.2.2 - 1) ∧ (x10.2.2.2.2 - 1) ≤ 8) → (0 ≤ y33.2.2.2.2 ∧ y33.2.2.2.2 ≤ 9))))) ∧ (((n = n) ∧ ((((x10.2.2.2.1 + 1 + 1) + 1) = y33.2.2.2.1) ∧ ((0 ≤ ((x10.2.2.2.1 + 1 + 1) + 1) ∧ ((x10.2.2.2.1 + 1 + 1) + 1) ≤ 10000001) → (0 ≤ y33.2.2.2.1 ∧ y33.2.2.2.1 ≤ 9999000)))) ∧ (((n ≤ n) ∧ (∀ e35 : E, ((0 ≤ e35.den ∧ e35.den < n) → (((C (e35.den))) = ((C (e35.den))))))) ∧ ((y33.2.2.1 ≤ x10.2.2.1) ∧ (∀ e34 : E, ((0 ≤ e34.den ∧ e34.den < y33.2.2.1) → ((((x10.1 (e34.den))) = ((y33.1 (e34.den)))) ∧ (((x10.2.1 (e34.den))) = ((y33.2.1 (e34.den))))))))))) ∧ (y33.2.2.2.2.toNat < x10.2.2.2.2.toNat)))))))))))))))))) ∧ ((x10.2.2.2.2 ≤ 0) → (((0 < x10.2.2.1) → ((((n = n) ∧ (x10.2.2.2.1 = x10.2.2.2.1)) ∧ ((n ≤ n) ∧ (∀ e36 : E, ((0 ≤ e36.den ∧ e36.den < n) → (((C (e36.den))) = ((C (e36.den)))))))) ∧ ((0 ≤ (pk C n x10.2.2.2.1 14) ∧ (pk C n x10.2.2.2.1 14) ≤ 13) → ((((pk C n x10.2.2.2.1 14) = 0) → ((((n = n) ∧ (((x10.2.2.2.1 + 1) = (x10.2.2.2.1 + 1)) ∧ ((0 ≤ (x10.2.2.2.1 + 1) ∧ (x10.2.2.2.1 + 1) ≤ 10000001) → (0 ≤ (x10.2.2.2.1 + 1) ∧ (x10.2.2.2.1 + 1) ≤ 9999800)))) ∧ ((n ≤ n) ∧ (∀ e37 : E, ((0 ≤ e37.den ∧ e37.den < n) → (((C (e37.den))) = ((C (e37.den)))))))) ∧ ((((-1001) ≤ (agM C n (x10.2.2.2.1 + 1)) ∧ (agM C n (x10.2.2.2.1 + 1)) ≤ 1001) ∧ ((-1001) ≤ (agB C n (x10.2.2.2.1 + 1)) ∧ (agB C n (x10.2.2.2.1 + 1)) ≤ 1001)) → ((0 < x10.2.2.1) ∧ ((0 < x10.2.2.1) ∧ (∃ y38 : (Int → Int) × (Int → Int) × Int × Int, ((0 ≤ y38.2.2.1 ∧ y38.2.2.1 ≤ 9) ∧ ((x10.2.2.1 = y38.2.2.1) ∧ (((n = n) ∧ ((agP C n (x10.2.2.2.1 + 1)) = y38.2.2.2)) ∧ (((n ≤ n) ∧ (∀ e41 : E, ((0 ≤ e41.den ∧ e41.den < n) → (((C (e41.den))) = ((C (e41.den))))))) ∧ ((y38.2.2.1 = x10.2.2.1) ∧ ((∀ e40 : E, ((0 ≤ e40.den ∧ e40.den < x10.2.2.1 ∧ e40.den ≠ 0) → ((((x10.1 (e40.den))) = ((y38.1 (e40.den)))) ∧ (((x10.2.1 (e40.den))) = ((y38.2.1 (e40.den))))))) ∧ (∀ e39 : E, ((e39.den.toNat = (0 : Int).toNat ∧ 0 ≤ e39.den) → (((agM C n (x10.2.2.2.1 + 1)) = ((y38.1 (e39.den)))) ∧ ((agB C n (x10.2.2.2.1 + 1)) = ((y38.2.1 (e39.den))))))))))))))))))) ∧ (((pk C n x10.2.2.2.1 14) ≠ 0) → (∃ y42 : (Int → Int) × (Int → Int) × Int × Int, ((0 ≤ y42.2.2.1 ∧ y42.2.2.1 ≤ 9) ∧ ((x10.2.2.1 = y42.2.2.1) ∧ (((n = n) ∧ (((x10.2.2.2.1 + 1) = y42.2.2.2) ∧ ((0 ≤ (x10.2.2.2.1 + 1) ∧ (x10.2.2.2.1 + 1) ≤ 10000001) → (0 ≤ y42.2.2.2 ∧ y42.2.2.2 ≤ 9999900)))) ∧ (((n ≤ n) ∧ (∀ e44 : E, ((0 ≤ e44.den ∧ e44.den < n) → (((C (e44.den))) = ((C (e44.den))))))) ∧ ((y42.2.2.1 ≤ x10.2.2.1) ∧ (∀ e43 : E, ((0 ≤ e43.den ∧ e43.den < y42.2.2.1) → ((((x10.1 (e43.den))) = ((y42.1 (e43.den)))) ∧ (((x10.2.1 (e43.den))) = ((y42.2.1 (e43.den)))))))))))))))))) ∧ ((x10.2.2.1 ≤ 0) → (∃ y45 : (Int → Int) × (Int → Int) × Int × Int, ((0 ≤ y45.2.2.1 ∧ y45.2.2.1 ≤ 9) ∧ ((x10.2.2.1 = y45.2.2.1) ∧ (((n = n) ∧ (x10.2.2.2.1 = y45.2.2.2)) ∧ (((n ≤ n) ∧ (∀ e47 : E, ((0 ≤ e47.den ∧ e47.den < n) → (((C (e47.den))) = ((C (e47.den))))))) ∧ ((y45.2.2.1 ≤ x10.2.2.1) ∧ (∀ e46 : E, ((0 ≤ e46.den ∧ e46.den < y45.2.2.1) → ((((x10.1 (e46.den))) = ((y45.1 (e46.den)))) ∧ (((x10.2.1 (e46.den))) = ((y45.2.1 (e46.den))))))))))))))))))))))) (by kernel_rfl) ?_
  intro h1 h2
  refine ⟨?_, ?_⟩
  · refine ⟨⟨rfl, rfl⟩, ?_, Int.le_refl _, fun _ => fun _ => rfl⟩
    refine ⟨?_, ?_, ?_, ?_, ?_, ?_, ?_, ?_⟩
    · intro e9
      intro c49
      -- 1: (0 : Int) = (selL [0, 1, 2, 3, 4, 5, 6, 9] (e9.den))
      first | omega | rfl | (simp [selL, *]; done) | (exact ⟨by omega, by omega⟩) | (have ha := agP_bd C n q; omega) | fail
    · intro e8
      intro c50
      -- 2: (1 : Int) = (selL [0, 1, 2, 3, 4, 5, 6, 9] (e8.den))
      first | omega | rfl | (simp [selL, *]; done) | (exact ⟨by omega, by omega⟩) | (have ha := agP_bd C n q; omega) | fail
    · intro e7
      intro c51
      -- 3: (2 : Int) = (selL [0, 1, 2, 3, 4, 5, 6, 9] (e7.den))
      first | omega | rfl | (simp [selL, *]; done) | (exact ⟨by omega, by omega⟩) | (have ha := agP_bd C n q; omega) | fail
    · intro e6
      intro c52
      -- 4: (3 : Int) = (selL [0, 1, 2, 3, 4, 5, 6, 9] (e6.den))
      first | omega | rfl | (simp [selL, *]; done) | (exact ⟨by omega, by omega⟩) | (have ha := agP_bd C n q; omega) | fail
    · intro e5
      intro c53
      -- 5: (4 : Int) = (selL [0, 1, 2, 3, 4, 5, 6, 9] (e5.den))
      first | omega | rfl | (simp [selL, *]; done) | (exact ⟨by omega, by omega⟩) | (have ha := agP_bd C n q; omega) | fail
    · intro e4
      intro c54
      -- 6: (5 : Int) = (selL [0, 1, 2, 3, 4, 5, 6, 9] (e4.den))
      first | omega | rfl | (simp [selL, *]; done) | (exact ⟨by omega, by omega⟩) | (have ha := agP_bd C n q; omega) | fail
    · intro e3
      intro c55
      -- 7: (6 : Int) = (selL [0, 1, 2, 3, 4, 5, 6, 9] (e3.den))
      first | omega | rfl | (simp [selL, *]; done) | (exact ⟨by omega, by omega⟩) | (have ha := agP_bd C n q; omega) | fail
    · intro e2
      intro c56
      -- 8: (9 : Int) = (selL [0, 1, 2, 3, 4, 5, 6, 9] (e2.den))
      first | omega | rfl | (simp [selL, *]; done) | (exact ⟨by omega, by omega⟩) | (have ha := agP_bd C n q; omega) | fail
  · intro c57
    refine ⟨?_, ?_⟩
    · refine ⟨((fun ι => 0), (fun ι => 0), 0, p + 1, (selL [0, 1, 2, 3, 4, 5, 6, 9] (pk C n p 8))), ?_⟩
      try dsimp only
      refine ⟨?_, ?_, ?_, ⟨Int.le_refl _, fun _ => fun _ => rfl⟩, ?_⟩
        -- 9: (0 ≤ y11.2.2.1 ∧ y11.2.2.1 + y11.2.2.2.2 ≤ 9) ∧ (0 ≤ y11.2.2.2.2 ∧ y11.2.2.2.2 ≤ 9) ∧ p ≤ y11.2.2.2.
      · first | omega | rfl | (simp [selL, *]; done) | (exact ⟨by omega, by omega⟩) | (have ha := agP_bd C n q; omega) | fail
      · refine ⟨rfl, ?_, ?_⟩
          -- 10: (0 : Int) = y11.2.2.1
        · first | omega | rfl | (simp [selL, *]; done) | (exact ⟨by omega, by omega⟩) | (have ha := agP_bd C n q; omega) | fail
          -- 11: (selL [0, 1, 2, 3, 4, 5, 6, 9] (pk C n p 8)) = y11.2.2.2.2
        · first | omega | rfl | (simp [selL, *]; done) | (exact ⟨by omega, by omega⟩) | (have ha := agP_bd C n q; omega) | fail
      · refine ⟨rfl, ?_, ?_⟩
          -- 12: (p + 1) = y11.2.2.2.1
        · first | omega | rfl | (simp [selL, *]; done) | (exact ⟨by omega, by omega⟩) | (have ha := agP_bd C n q; omega) | fail
        · intro c58
          -- 13: 0 ≤ y11.2.2.2.1 ∧ y11.2.2.2.1 ≤ 9999000
          first | omega | rfl | (simp [selL, *]; done) | (exact ⟨by omega, by omega⟩) | (have ha := agP_bd C n q; omega) | fail
        -- 14: y11.2.2.1 = 0
      · first | omega | rfl | (simp [selL, *]; done) | (exact ⟨by omega, by omega⟩) | (have ha := agP_bd C n q; omega) | fail
    · rintro ⟨X, Y, m, q, k⟩
      dsimp only
      intro I1
      refine ⟨?_, ?_⟩
      · intro c59
        refine ⟨⟨⟨rfl, rfl⟩, ⟨Int.le_refl _, fun _ => fun _ => rfl⟩⟩, ?_⟩
        intro c60
        refine ⟨?_, ?_⟩
        · refine ⟨(false, 0), ?_⟩
          try dsimp only
          refine ⟨?_, ?_, ⟨rfl, rfl⟩, ⟨Int.le_refl _, fun _ => fun _ => rfl⟩, ⟨Int.le_refl _, fun _ => fun _ => ⟨rfl, rfl⟩⟩, rfl, rfl⟩
            -- 15: (0 ≤ y15.2 ∧ y15.2 ≤ x10.2.2.1) ∧ (0 ≤ x10.2.2.1 ∧ x10.2.2.1 + x10.2.2.2.2 ≤ 9) ∧ (1 ≤ x10.2.2.2.2 ∧
          · first | omega | rfl | (simp [selL, *]; done) | (exact ⟨by omega, by omega⟩) | (have ha := agP_bd C n q; omega) | fail
          · refine ⟨rfl, rfl, rfl, ?_, ?_, rfl, Iff.rfl, rfl, rfl⟩
              -- 16: y15.1 = false
            · first | omega | rfl | (simp [selL, *]; done) | (exact ⟨by omega, by omega⟩) | (have ha := agP_bd C n q; omega) | fail
              -- 17: (0 : Int) = y15.2
            · first | omega | rfl | (simp [selL, *]; done) | (exact ⟨by omega, by omega⟩) | (have ha := agP_bd C n q; omega) | fail
        · rintro ⟨z, j⟩
          dsimp only
          intro I2
          refine ⟨?_, ?_⟩
          · intro c61
            refine ⟨?_, ?_⟩
            · intro c62
              refine ⟨(true, j + 1), ?_⟩
              try dsimp only
              refine ⟨?_, ?_, ?_⟩
                -- 18: (0 ≤ y18.2 ∧ y18.2 ≤ x10.2.2.1) ∧ (0 ≤ x10.2.2.1 ∧ x10.2.2.1 + x10.2.2.2.2 ≤ 9) ∧ (1 ≤ x10.2.2.2.2 ∧
              · first | omega | rfl | (simp [selL, *]; done) | (exact ⟨by omega, by omega⟩) | (have ha := agP_bd C n q; omega) | fail
              · refine ⟨?_, ⟨rfl, rfl⟩, ⟨Int.le_refl _, fun _ => fun _ => rfl⟩, ⟨Int.le_refl _, fun _ => fun _ => ⟨rfl, rfl⟩⟩, rfl, rfl⟩
                refine ⟨rfl, rfl, rfl, ?_, ?_, rfl, Iff.rfl, rfl, rfl⟩
                  -- 19: y18.1 = true
                · first | omega | rfl | (simp [selL, *]; done) | (exact ⟨by omega, by omega⟩) | (have ha := agP_bd C n q; omega) | fail
                · refine ⟨?_, ?_⟩
                    -- 20: (x14.2 + 1) = y18.2
                  · first | omega | rfl | (simp [selL, *]; done) | (exact ⟨by omega, by omega⟩) | (have ha := agP_bd C n q; omega) | fail
                  · intro c63
                    -- 21: 0 ≤ y18.2 ∧ y18.2 ≤ 9
                    first | omega | rfl | (simp [selL, *]; done) | (exact ⟨by omega, by omega⟩) | (have ha := agP_bd C n q; omega) | fail
                -- 22: (x10.2.2.1 - y18.2).toNat < (x10.2.2.1 - x14.2).toNat
              · first | omega | rfl | (simp [selL, *]; done) | (exact ⟨by omega, by omega⟩) | (have ha := agP_bd C n q; omega) | fail
            · intro c64
              refine ⟨?_, ?_, ?_⟩
                -- 23: ((0 ≤ x14.2) ∧ (x14.2 < x10.2.2.1))
              · first | omega | rfl | (simp [selL, *]; done) | (exact ⟨by omega, by omega⟩) | (have ha := agP_bd C n q; omega) | fail
                -- 24: x14.2 < x10.2.2.1
              · first | omega | rfl | (simp [selL, *]; done) | (exact ⟨by omega, by omega⟩) | (have ha := agP_bd C n q; omega) | fail
              · refine ⟨((decide (((X (j))) = (rgM C n q))) && (decide (((Y (j))) = (rgB C n q))), j + 1), ?_⟩
                try dsimp only
                refine ⟨?_, ?_, ?_⟩
                  -- 25: (0 ≤ y21.2 ∧ y21.2 ≤ x10.2.2.1) ∧ (0 ≤ x10.2.2.1 ∧ x10.2.2.1 + x10.2.2.2.2 ≤ 9) ∧ (1 ≤ x10.2.2.2.2 ∧
                · first | omega | rfl | (simp [selL, *]; done) | (exact ⟨by omega, by omega⟩) | (have ha := agP_bd C n q; omega) | fail
                · refine ⟨?_, ⟨rfl, rfl⟩, ⟨Int.le_refl _, fun _ => fun _ => rfl⟩, ⟨Int.le_refl _, fun _ => fun _ => ⟨rfl, rfl⟩⟩, rfl, rfl⟩
                  refine ⟨rfl, rfl, rfl, ?_, ?_, rfl, Iff.rfl, rfl, rfl⟩
                    -- 26: (((((x10.1 (x14.2))) = (rgM C n x10.2.2.2.1)) ∧ (((x10.2.1 (x14.2))) = (rgB C n x10.2.2.2.1)))) ↔ (y
                  · first | omega | rfl | (simp [selL, *]; done) | (exact ⟨by omega, by omega⟩) | (have ha := agP_bd C n q; omega) | fail
                  · refine ⟨?_, ?_⟩
                      -- 27: (x14.2 + 1) = y21.2
                    · first | omega | rfl | (simp [selL, *]; done) | (exact ⟨by omega, by omega⟩) | (have ha := agP_bd C n q; omega) | fail
                    · intro c65
                      -- 28: 0 ≤ y21.2 ∧ y21.2 ≤ 9
                      first | omega | rfl | (simp [selL, *]; done) | (exact ⟨by omega, by omega⟩) | (have ha := agP_bd C n q; omega) | fail
                  -- 29: (x10.2.2.1 - y21.2).toNat < (x10.2.2.1 - x14.2).toNat
                · first | omega | rfl | (simp [selL, *]; done) | (exact ⟨by omega, by omega⟩) | (have ha := agP_bd C n q; omega) | fail
          · intro c66
            refine ⟨?_, ?_⟩
            · intro c67
              refine ⟨?_, ?_⟩
                -- 30: x10.2.2.1 = x10.2.2.1
              · first | omega | rfl | (simp [selL, *]; done) | (exact ⟨by omega, by omega⟩) | (have ha := agP_bd C n q; omega) | fail
              · refine ⟨((fun ι => if ι = m then (rgM C n q) else ((X (ι)))), (fun ι => if ι = m then (rgB C n q) else ((Y (ι)))), m + 1, q + 1 + 1, k - 1), ?_⟩
                try dsimp only
                refine ⟨?_, ?_, ?_⟩
                  -- 31: (0 ≤ y24.2.2.1 ∧ y24.2.2.1 + y24.2.2.2.2 ≤ 9) ∧ (0 ≤ y24.2.2.2.2 ∧ y24.2.2.2.2 ≤ 9) ∧ p ≤ y24.2.2.2.
                · first | omega | rfl | (simp [selL, *]; done) | (exact ⟨by omega, by omega⟩) | (have ha := agP_bd C n q; omega) | fail
                · refine ⟨?_, ?_, ⟨Int.le_refl _, fun _ => fun _ => rfl⟩, ?_, ?_, ?_⟩
                  · refine ⟨rfl, ?_, ?_, ?_⟩
                    · refine ⟨?_, ?_⟩
                        -- 32: (x10.2.2.1 + 1) = y24.2.2.1
                      · first | omega | rfl | (simp [selL, *]; done) | (exact ⟨by omega, by omega⟩) | (have ha := agP_bd C n q; omega) | fail
                      · intro c68
                        -- 33: y24.2.2.1 ≤ 9
                        first | omega | rfl | (simp [selL, *]; done) | (exact ⟨by omega, by omega⟩) | (have ha := agP_bd C n q; omega) | fail
                      -- 34: (x10.2.2.2.2 - 1) = y24.2.2.2.2
                    · first | omega | rfl | (simp [selL, *]; done) | (exact ⟨by omega, by omega⟩) | (have ha := agP_bd C n q; omega) | fail
                    · intro c69
                      -- 35: 0 ≤ y24.2.2.2.2 ∧ y24.2.2.2.2 ≤ 9
                      first | omega | rfl | (simp [selL, *]; done) | (exact ⟨by omega, by omega⟩) | (have ha := agP_bd C n q; omega) | fail
                  · refine ⟨rfl, ?_, ?_⟩
                      -- 36: (x10.2.2.2.1 + 1 + 1) = y24.2.2.2.1
                    · first | omega | rfl | (simp [selL, *]; done) | (exact ⟨by omega, by omega⟩) | (have ha := agP_bd C n q; omega) | fail
                    · intro c70
                      -- 37: 0 ≤ y24.2.2.2.1 ∧ y24.2.2.2.1 ≤ 9999000
                      first | omega | rfl | (simp [selL, *]; done) | (exact ⟨by omega, by omega⟩) | (have ha := agP_bd C n q; omega) | fail
                    -- 38: (0 : Int) ≤ x10.2.2.1 ∧ y24.2.2.1 = x10.2.2.1 + 1
                  · first | omega | rfl | (simp [selL, *]; done) | (exact ⟨by omega, by omega⟩) | (have ha := agP_bd C n q; omega) | fail
                  · refine ⟨Int.le_refl _, ?_⟩
                    intro e26
                    intro c71
                    refine ⟨?_, ?_⟩
                      -- 39: ((x10.1 (e26.den))) = ((y24.1 (e26.den)))
                    · first | omega | rfl | (simp [selL, *]; done) | (exact ⟨by omega, by omega⟩) | (have ha := agP_bd C n q; omega) | fail
                      -- 40: ((x10.2.1 (e26.den))) = ((y24.2.1 (e26.den)))
                    · first | omega | rfl | (simp [selL, *]; done) | (exact ⟨by omega, by omega⟩) | (have ha := agP_bd C n q; omega) | fail
                  · intro e25
                    intro c72
                    refine ⟨?_, ?_⟩
                      -- 41: (rgM C n x10.2.2.2.1) = ((y24.1 (e25.den)))
                    · first | omega | rfl | (simp [selL, *]; done) | (exact ⟨by omega, by omega⟩) | (have ha := agP_bd C n q; omega) | fail
                      -- 42: (rgB C n x10.2.2.2.1) = ((y24.2.1 (e25.den)))
                    · first | omega | rfl | (simp [selL, *]; done) | (exact ⟨by omega, by omega⟩) | (have ha := agP_bd C n q; omega) | fail
                  -- 43: y24.2.2.2.2.toNat < x10.2.2.2.2.toNat
                · first | omega | rfl | (simp [selL, *]; done) | (exact ⟨by omega, by omega⟩) | (have ha := agP_bd C n q; omega) | fail
            · intro c73
              refine ⟨⟨⟨rfl, rfl⟩, ⟨Int.le_refl _, fun _ => fun _ => rfl⟩⟩, ?_⟩
              intro c74
              refine ⟨?_, ?_⟩
              · intro c75
                refine ⟨?_, ?_⟩
                  -- 44: x10.2.2.1 = x10.2.2.1
                · first | omega | rfl | (simp [selL, *]; done) | (exact ⟨by omega, by omega⟩) | (have ha := agP_bd C n q; omega) | fail
                · refine ⟨((fun ι => if ι = m then (rgM C n q) else ((X (ι)))), (fun ι => if ι = m then (rgB C n q) else ((Y (ι)))), m + 1, (q + 1 + 1) + 1, k - 1), ?_⟩
                  try dsimp only
                  refine ⟨?_, ?_, ?_⟩
                    -- 45: (0 ≤ y29.2.2.1 ∧ y29.2.2.1 + y29.2.2.2.2 ≤ 9) ∧ (0 ≤ y29.2.2.2.2 ∧ y29.2.2.2.2 ≤ 9) ∧ p ≤ y29.2.2.2.
                  · first | omega | rfl | (simp [selL, *]; done) | (exact ⟨by omega, by omega⟩) | (have ha := agP_bd C n q; omega) | fail
                  · refine ⟨?_, ?_, ⟨Int.le_refl _, fun _ => fun _ => rfl⟩, ?_, ?_, ?_⟩
                    · refine ⟨rfl, ?_, ?_, ?_⟩
                      · refine ⟨?_, ?_⟩
                          -- 46: (x10.2.2.1 + 1) = y29.2.2.1
                        · first | omega | rfl | (simp [selL, *]; done) | (exact ⟨by omega, by omega⟩) | (have ha := agP_bd C n q; omega) | fail
                        · intro c76
                          -- 47: y29.2.2.1 ≤ 9
                          first | omega | rfl | (simp [selL, *]; done) | (exact ⟨by omega, by omega⟩) | (have ha := agP_bd C n q; omega) | fail
                        -- 48: (x10.2.2.2.2 - 1) = y29.2.2.2.2
                      · first | omega | rfl | (simp [selL, *]; done) | (exact ⟨by omega, by omega⟩) | (have ha := agP_bd C n q; omega) | fail
                      · intro c77
                        -- 49: 0 ≤ y29.2.2.2.2 ∧ y29.2.2.2.2 ≤ 9
                        first | omega | rfl | (simp [selL, *]; done) | (exact ⟨by omega, by omega⟩) | (have ha := agP_bd C n q; omega) | fail
                    · refine ⟨rfl, ?_, ?_⟩
                        -- 50: ((x10.2.2.2.1 + 1 + 1) + 1) = y29.2.2.2.1
                      · first | omega | rfl | (simp [selL, *]; done) | (exact ⟨by omega, by omega⟩) | (have ha := agP_bd C n q; omega) | fail
                      · intro c78
                        -- 51: 0 ≤ y29.2.2.2.1 ∧ y29.2.2.2.1 ≤ 9999000
                        first | omega | rfl | (simp [selL, *]; done) | (exact ⟨by omega, by omega⟩) | (have ha := agP_bd C n q; omega) | fail
                      -- 52: (0 : Int) ≤ x10.2.2.1 ∧ y29.2.2.1 = x10.2.2.1 + 1
                    · first | omega | rfl | (simp [selL, *]; done) | (exact ⟨by omega, by omega⟩) | (have ha := agP_bd C n q; omega) | fail
                    · refine ⟨Int.le_refl _, ?_⟩
                      intro e31
                      intro c79
                      refine ⟨?_, ?_⟩
                        -- 53: ((x10.1 (e31.den))) = ((y29.1 (e31.den)))
                      · first | omega | rfl | (simp [selL, *]; done) | (exact ⟨by omega, by omega⟩) | (have ha := agP_bd C n q; omega) | fail
                        -- 54: ((x10.2.1 (e31.den))) = ((y29.2.1 (e31.den)))
                      · first | omega | rfl | (simp [selL, *]; done) | (exact ⟨by omega, by omega⟩) | (have ha := agP_bd C n q; omega) | fail
                    · intro e30
                      intro c80
                      refine ⟨?_, ?_⟩
                        -- 55: (rgM C n x10.2.2.2.1) = ((y29.1 (e30.den)))
                      · first | omega | rfl | (simp [selL, *]; done) | (exact ⟨by omega, by omega⟩) | (have ha := agP_bd C n q; omega) | fail
                        -- 56: (rgB C n x10.2.2.2.1) = ((y29.2.1 (e30.den)))
                      · first | omega | rfl | (simp [selL, *]; done) | (exact ⟨by omega, by omega⟩) | (have ha := agP_bd C n q; omega) | fail
                    -- 57: y29.2.2.2.2.toNat < x10.2.2.2.2.toNat
                  · first | omega | rfl | (simp [selL, *]; done) | (exact ⟨by omega, by omega⟩) | (have ha := agP_bd C n q; omega) | fail
              · intro c81
                refine ⟨(X, Y, m, (q + 1 + 1) + 1, k - 1), ?_⟩
                try dsimp only
                refine ⟨?_, ?_, ?_⟩
                  -- 58: (0 ≤ y33.2.2.1 ∧ y33.2.2.1 + y33.2.2.2.2 ≤ 9) ∧ (0 ≤ y33.2.2.2.2 ∧ y33.2.2.2.2 ≤ 9) ∧ p ≤ y33.2.2.2.
                · first | omega | rfl | (simp [selL, *]; done) | (exact ⟨by omega, by omega⟩) | (have ha := agP_bd C n q; omega) | fail
                · refine ⟨?_, ?_, ⟨Int.le_refl _, fun _ => fun _ => rfl⟩, ?_, ?_⟩
                  · refine ⟨rfl, ?_, ?_, ?_⟩
                      -- 59: x10.2.2.1 = y33.2.2.1
                    · first | omega | rfl | (simp [selL, *]; done) | (exact ⟨by omega, by omega⟩) | (have ha := agP_bd C n q; omega) | fail
                      -- 60: (x10.2.2.2.2 - 1) = y33.2.2.2.2
                    · first | omega | rfl | (simp [selL, *]; done) | (exact ⟨by omega, by omega⟩) | (have ha := agP_bd C n q; omega) | fail
                    · intro c82
                      -- 61: 0 ≤ y33.2.2.2.2 ∧ y33.2.2.2.2 ≤ 9
                      first | omega | rfl | (simp [selL, *]; done) | (exact ⟨by omega, by omega⟩) | (have ha := agP_bd C n q; omega) | fail
                  · refine ⟨rfl, ?_, ?_⟩
                      -- 62: ((x10.2.2.2.1 + 1 + 1) + 1) = y33.2.2.2.1
                    · first | omega | rfl | (simp [selL, *]; done) | (exact ⟨by omega, by omega⟩) | (have ha := agP_bd C n q; omega) | fail
                    · intro c83
                      -- 63: 0 ≤ y33.2.2.2.1 ∧ y33.2.2.2.1 ≤ 9999000
                      first | omega | rfl | (simp [selL, *]; done) | (exact ⟨by omega, by omega⟩) | (have ha := agP_bd C n q; omega) | fail
                    -- 64: y33.2.2.1 ≤ x10.2.2.1
                  · first | omega | rfl | (simp [selL, *]; done) | (exact ⟨by omega, by omega⟩) | (have ha := agP_bd C n q; omega) | fail
                  · intro e34
                    intro c84
                    refine ⟨?_, ?_⟩
                      -- 65: ((x10.1 (e34.den))) = ((y33.1 (e34.den)))
                    · first | omega | rfl | (simp [selL, *]; done) | (exact ⟨by omega, by omega⟩) | (have ha := agP_bd C n q; omega) | fail
                      -- 66: ((x10.2.1 (e34.den))) = ((y33.2.1 (e34.den)))
                    · first | omega | rfl | (simp [selL, *]; done) | (exact ⟨by omega, by omega⟩) | (have ha := agP_bd C n q; omega) | fail
                  -- 67: y33.2.2.2.2.toNat < x10.2.2.2.2.toNat
                · first | omega | rfl | (simp [selL, *]; done) | (exact ⟨by omega, by omega⟩) | (have ha := agP_bd C n q; omega) | fail
      · intro c85
        refine ⟨?_, ?_⟩
        · intro c86
          refine ⟨⟨⟨rfl, rfl⟩, ⟨Int.le_refl _, fun _ => fun _ => rfl⟩⟩, ?_⟩
          intro c87
          refine ⟨?_, ?_⟩
          · intro c88
            refine ⟨?_, ?_⟩
            · refine ⟨?_, Int.le_refl _, fun _ => fun _ => rfl⟩
              refine ⟨rfl, rfl, ?_⟩
              intro c89
              -- 68: 0 ≤ (x10.2.2.2.1 + 1) ∧ (x10.2.2.2.1 + 1) ≤ 9999800
              first | omega | rfl | (simp [selL, *]; done) | (exact ⟨by omega, by omega⟩) | (have ha := agP_bd C n q; omega) | fail
            · intro c90
              refine ⟨?_, ?_, ?_⟩
                -- 69: 0 < x10.2.2.1
              · first | omega | rfl | (simp [selL, *]; done) | (exact ⟨by omega, by omega⟩) | (have ha := agP_bd C n q; omega) | fail
                -- 70: 0 < x10.2.2.1
              · first | omega | rfl | (simp [selL, *]; done) | (exact ⟨by omega, by omega⟩) | (have ha := agP_bd C n q; omega) | fail
              · refine ⟨((fun ι => if ι = 0 then (agM C n (q + 1)) else ((X (ι)))), (fun ι => if ι = 0 then (agB C n (q + 1)) else ((Y (ι)))), m, agP C n (q + 1)), ?_⟩
                try dsimp only
                refine ⟨?_, ?_, ?_, ⟨Int.le_refl _, fun _ => fun _ => rfl⟩, ?_, ?_, ?_⟩
                  -- 71: 0 ≤ y38.2.2.1 ∧ y38.2.2.1 ≤ 9
                · first | omega | rfl | (simp [selL, *]; done) | (exact ⟨by omega, by omega⟩) | (have ha := agP_bd C n q; omega) | fail
                  -- 72: x10.2.2.1 = y38.2.2.1
                · first | omega | rfl | (simp [selL, *]; done) | (exact ⟨by omega, by omega⟩) | (have ha := agP_bd C n q; omega) | fail
                · refine ⟨rfl, ?_⟩
                  -- 73: (agP C n (x10.2.2.2.1 + 1)) = y38.2.2.2
                  first | omega | rfl | (simp [selL, *]; done) | (exact ⟨by omega, by omega⟩) | (have ha := agP_bd C n q; omega) | fail
                  -- 74: y38.2.2.1 = x10.2.2.1
                · first | omega | rfl | (simp [selL, *]; done) | (exact ⟨by omega, by omega⟩) | (have ha := agP_bd C n q; omega) | fail
                · intro e40
                  intro c91
                  refine ⟨?_, ?_⟩
                    -- 75: ((x10.1 (e40.den))) = ((y38.1 (e40.den)))
                  · first | omega | rfl | (simp [selL, *]; done) | (exact ⟨by omega, by omega⟩) | (have ha := agP_bd C n q; omega) | fail
                    -- 76: ((x10.2.1 (e40.den))) = ((y38.2.1 (e40.den)))
                  · first | omega | rfl | (simp [selL, *]; done) | (exact ⟨by omega, by omega⟩) | (have ha := agP_bd C n q; omega) | fail
                · intro e39
                  intro c92
                  refine ⟨?_, ?_⟩
                    -- 77: (agM C n (x10.2.2.2.1 + 1)) = ((y38.1 (e39.den)))
                  · first | omega | rfl | (simp [selL, *]; done) | (exact ⟨by omega, by omega⟩) | (have ha := agP_bd C n q; omega) | fail
                    -- 78: (agB C n (x10.2.2.2.1 + 1)) = ((y38.2.1 (e39.den)))
                  · first | omega | rfl | (simp [selL, *]; done) | (exact ⟨by omega, by omega⟩) | (have ha := agP_bd C n q; omega) | fail
          · intro c93
            refine ⟨(X, Y, m, q + 1), ?_⟩
            try dsimp only
            refine ⟨?_, ?_, ?_, ⟨Int.le_refl _, fun _ => fun _ => rfl⟩, ?_, ?_⟩
              -- 79: 0 ≤ y42.2.2.1 ∧ y42.2.2.1 ≤ 9
            · first | omega | rfl | (simp [selL, *]; done) | (exact ⟨by omega, by omega⟩) | (have ha := agP_bd C n q; omega) | fail
              -- 80: x10.2.2.1 = y42.2.2.1
            · first | omega | rfl | (simp [selL, *]; done) | (exact ⟨by omega, by omega⟩) | (have ha := agP_bd C n q; omega) | fail
            · refine ⟨rfl, ?_, ?_⟩
                -- 81: (x10.2.2.2.1 + 1) = y42.2.2.2
              · first | omega | rfl | (simp [selL, *]; done) | (exact ⟨by omega, by omega⟩) | (have ha := agP_bd C n q; omega) | fail
              · intro c94
                -- 82: 0 ≤ y42.2.2.2 ∧ y42.2.2.2 ≤ 9999900
                first | omega | rfl | (simp [selL, *]; done) | (exact ⟨by omega, by omega⟩) | (have ha := agP_bd C n q; omega) | fail
              -- 83: y42.2.2.1 ≤ x10.2.2.1
            · first | omega | rfl | (simp [selL, *]; done) | (exact ⟨by omega, by omega⟩) | (have ha := agP_bd C n q; omega) | fail
            · intro e43
              intro c95
              refine ⟨?_, ?_⟩
                -- 84: ((x10.1 (e43.den))) = ((y42.1 (e43.den)))
              · first | omega | rfl | (simp [selL, *]; done) | (exact ⟨by omega, by omega⟩) | (have ha := agP_bd C n q; omega) | fail
                -- 85: ((x10.2.1 (e43.den))) = ((y42.2.1 (e43.den)))
              · first | omega | rfl | (simp [selL, *]; done) | (exact ⟨by omega, by omega⟩) | (have ha := agP_bd C n q; omega) | fail
        · intro c96
          refine ⟨(X, Y, m, q), ?_⟩
          try dsimp only
          refine ⟨?_, ?_, ?_, ⟨Int.le_refl _, fun _ => fun _ => rfl⟩, ?_, ?_⟩
            -- 86: 0 ≤ y45.2.2.1 ∧ y45.2.2.1 ≤ 9
          · first | omega | rfl | (simp [selL, *]; done) | (exact ⟨by omega, by omega⟩) | (have ha := agP_bd C n q; omega) | fail
            -- 87: x10.2.2.1 = y45.2.2.1
          · first | omega | rfl | (simp [selL, *]; done) | (exact ⟨by omega, by omega⟩) | (have ha := agP_bd C n q; omega) | fail
          · refine ⟨rfl, ?_⟩
            -- 88: x10.2.2.2.1 = y45.2.2.2
            first | omega | rfl | (simp [selL, *]; done) | (exact ⟨by omega, by omega⟩) | (have ha := agP_bd C n q; omega) | fail
            -- 89: y45.2.2.1 ≤ x10.2.2.1
          · first | omega | rfl | (simp [selL, *]; done) | (exact ⟨by omega, by omega⟩) | (have ha := agP_bd C n q; omega) | fail
          · intro e46
            intro c97
            refine ⟨?_, ?_⟩
              -- 90: ((x10.1 (e46.den))) = ((y45.1 (e46.den)))
            · first | omega | rfl | (simp [selL, *]; done) | (exact ⟨by omega, by omega⟩) | (have ha := agP_bd C n q; omega) | fail
              -- 91: ((x10.2.1 (e46.den))) = ((y45.2.1 (e46.den)))
            · first | omega | rfl | (simp [selL, *]; done) | (exact ⟨by omega, by omega⟩) | (have ha := agP_bd C n q; omega) | fail
def c_anyGraphs (C : Int → Int) (n : Int) (p : Int) : CnX Try.prog := ⟨_, _, _, (Int → Int) × (Int → Int) × Int × Int, (fun x => 0 ≤ x.2.2.1 ∧ x.2.2.1 ≤ 9), (fun x => (.sl 2 2 (.lit 0) (.v fun _ => x.2.2.1) 9)), (fun x => [some ⟨96, 2, true, (.lit [[(.sl 1 1 (.lit 0) (.v fun _ => n) 2000), (.int .i64 (.v fun _ => x.2.2.2) 0 9999900)]])⟩, some ⟨5, 1, false, (.sym (.v fun _ => n) fun e => [(.int .u8 (.v fun _ => (C (e.den))) 0 255)])⟩, some ⟨35, 2, true, (.sym (.v fun _ => x.2.2.1) fun e => [(.int .i64 (.v fun _ => (x.1 (e.den))) (-1001) 1001), (.int .i64 (.v fun _ => (x.2.1 (e.den))) (-1001) 1001)])⟩]), anyGraphs C n p⟩
end Go.Proofs.Ytbldachljmhfjaa
