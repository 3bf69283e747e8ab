/- Points drawn. -/
import Derived.Test.YtefikodgmhlfnaaR1
set_option linter.unusedSimpArgs false
set_option linter.unusedVariables false
set_option maxRecDepth 100000
namespace Go.Proofs.Ytefikodgmhlfnaa
open Go.Sym
def rpX (C : Int → Int) (n p : Int) : Int := pk C n p 9 - 2
def rpY (C : Int → Int) (n p : Int) : Int := pk C n (p + 1) 9 - 2
def oneL (k : Int) : Int := selL [1001, -1001, 1000, -1000] k
def apX (C : Int → Int) (n p : Int) : Int := if pk C n (p + 1 + 1) 16 = 0 then oneL (pk C n (p + 1 + 1 + 1) 4) else rpX C n p
def apY (C : Int → Int) (n p : Int) : Int := if pk C n (p + 1 + 1) 16 = 1 then oneL (pk C n (p + 1 + 1 + 1) 4) else rpY C n p
def apP (C : Int → Int) (n p : Int) : Int := if pk C n (p + 1 + 1) 16 = 0 then p + 1 + 1 + 1 + 1 else if pk C n (p + 1 + 1) 16 = 1 then p + 1 + 1 + 1 + 1 else p + 1 + 1 + 1
theorem apP_bd (C : Int → Int) (n p : Int) : p + 3 ≤ apP C n p ∧ apP C n p ≤ p + 4 := by unfold apP; split <;> (try split) <;> omega
theorem one_4 (C : Int → Int) (n : Int) (p : Int) (L : Int → Int) : RunsTo Try.prog 17 [(.ptr 0 2 (.lit 0) 0), (.sl 1 1 (.lit 0) (.lit 4) 4)] [some ⟨37, 2, true, (.lit [[(.sl 2 1 (.lit 0) (.v fun _ => n) 2000), (.int .i64 (.v fun _ => p) 0 9999990)]])⟩, some ⟨3, 1, true, (.sym (.lit 4) fun e => [(.int .i64 (.v fun _ => (L (e.den))) (-1001) 1001)])⟩, some ⟨5, 1, false, (.sym (.v fun _ => n) fun e => [(.int .u8 (.v fun _ => (C (e.den))) 0 255)])⟩] (.int .i64 (.v fun _ => (L (pk C n p 4))) (-1001) 1001) [some ⟨37, 2, true, (.lit [[(.sl 2 1 (.lit 0) (.v fun _ => n) 2000), (.int .i64 (.v fun _ => p + 1) 0 9999991)]])⟩, some ⟨3, 1, true, (.sym (.lit 4) fun e => [(.int .i64 (.v fun _ => (L (e.den))) (-1001) 1001)])⟩, some ⟨5, 1, false, (.sym (.v fun _ => n) fun e => [(.int .u8 (.v fun _ => (C (e.den))) 0 255)])⟩] := by
  refine RunsTo.go env Try.func17 rfl Try.call17 rfl rfl (fun _ _ => (.callF (c_pick_4 C n p) (.need (.need .ret)))) (G := (True) → (((0 ≤ n ∧ n ≤ 2000) ∧ (0 ≤ p ∧ p ≤ 9999990)) ∧ ((∀ e5 : E, ((0 ≤ e5.den ∧ e5.den < 4) → ((-1001) ≤ ((L (e5.den))) ∧ ((L (e5.den))) ≤ 1001))) ∧ (∀ e4 : E, ((0 ≤ e4.den ∧ e4.den < n) → (0 ≤ ((C (e4.den))) ∧ ((C (e4.den))) ≤ 255))))) → (((0 ≤ (4 : Int) ∧ (4 : Int) ≤ 4) → (4 ≤ (4 : Int) ∧ (4 : Int) ≤ 4)) ∧ ((((n = n) ∧ (p = p)) ∧ ((n ≤ n) ∧ (∀ e1 : E, ((0 ≤ e1.den ∧ e1.den < n) → (((C (e1.den))) = ((C (e1.den)))))))) ∧ ((0 ≤ (pk C n p 4) ∧ (pk C n p 4) ≤ 3) → ((((0 ≤ (pk C n p 4)) ∧ ((pk C n p 4) < 4))) ∧ (((pk C n p 4) < 4) ∧ ((((L (pk C n p 4))) = ((L (pk C n p 4)))) ∧ (((n = n) ∧ (((p + 1) = (p + 1)) ∧ ((0 ≤ (p + 1) ∧ (p + 1) ≤ 10000001) → (0 ≤ (p + 1) ∧ (p + 1) ≤ 9999991)))) ∧ ((((4 : Int) ≤ 4) ∧ (∀ e3 : E, ((0 ≤ e3.den ∧ e3.den < 4) → (((L (e3.den))) = ((L (e3.den))))))) ∧ ((n ≤ n) ∧ (∀ e2 : E, ((0 ≤ e2.den ∧ e2.den < n) → (((C (e2.den))) = ((C (e2.den)))))))))))))))) (by kernel_rfl) ?_
  intro h1 h2
  refine ⟨?_, ⟨⟨rfl, rfl⟩, ⟨Int.le_refl _, fun _ => fun _ => rfl⟩⟩, ?_⟩
  · intro c6
    omega
  · intro c7
    refine ⟨?_, ?_, rfl, ?_, ⟨Int.le_refl _, fun _ => fun _ => rfl⟩, Int.le_refl _, fun _ => fun _ => rfl⟩
    · omega
    · omega
    · refine ⟨rfl, rfl, ?_⟩
      intro c8
      omega
def c_one_4 (C : Int → Int) (n : Int) (p : Int) (L : Int → Int) : Cn Try.prog := ⟨_, _, _, _, _, one_4 C n p L⟩
theorem randomPoint (C : Int → Int) (n : Int) (p : Int) : RunsTo Try.prog 16 [(.ptr 0 2 (.lit 0) 0)] [some ⟨37, 2, true, (.lit [[(.sl 1 1 (.lit 0) (.v fun _ => n) 2000), (.int .i64 (.v fun _ => p) 0 9999900)]])⟩, some ⟨5, 1, false, (.sym (.v fun _ => n) fun e => [(.int .u8 (.v fun _ => (C (e.den))) 0 255)])⟩] (.agg [(.int .i64 (.v fun _ => rpX C n p) (-2) 6), (.int .i64 (.v fun _ => rpY C n p) (-2) 6)]) [some ⟨37, 2, true, (.lit [[(.sl 1 1 (.lit 0) (.v fun _ => n) 2000), (.int .i64 (.v fun _ => p + 1 + 1) 0 9999902)]])⟩, some ⟨5, 1, false, (.sym (.v fun _ => n) fun e => [(.int .u8 (.v fun _ => (C (e.den))) 0 255)])⟩] := by
  refine RunsTo.go env Try.func16 rfl Try.call16 rfl rfl (fun _ _ => (.call (c_pick_9 C n p) (.call (c_pick_9 C n (p + 1)) .ret))) (G := (True) → (((0 ≤ n ∧ n ≤ 2000) ∧ (0 ≤ p ∧ p ≤ 9999900)) ∧ (∀ e4 : E, ((0 ≤ e4.den ∧ e4.den < n) → (0 ≤ ((C (e4.den))) ∧ ((C (e4.den))) ≤ 255)))) → ((((n = n) ∧ (p = p)) ∧ ((n ≤ n) ∧ (∀ e1 : E, ((0 ≤ e1.den ∧ e1.den < n) → (((C (e1.den))) = ((C (e1.den)))))))) ∧ ((((n = n) ∧ (((p + 1) = (p + 1)) ∧ ((0 ≤ (p + 1) ∧ (p + 1) ≤ 10000001) → (0 ≤ (p + 1) ∧ (p + 1) ≤ 10000000)))) ∧ ((n ≤ n) ∧ (∀ e2 : E, ((0 ≤ e2.den ∧ e2.den < n) → (((C (e2.den))) = ((C (e2.den)))))))) ∧ (((((pk C n p 9) - 2) = (rpX C n p)) ∧ (((pk C n (p + 1) 9) - 2) = (rpY C n p))) ∧ (((n = n) ∧ ((((p + 1) + 1) = (p + 1 + 1)) ∧ ((0 ≤ ((p + 1) + 1) ∧ ((p + 1) + 1) ≤ 10000001) → (0 ≤ (p + 1 + 1) ∧ (p + 1 + 1) ≤ 9999902)))) ∧ ((n ≤ n) ∧ (∀ e3 : E, ((0 ≤ e3.den ∧ e3.den < n) → (((C (e3.den))) = ((C (e3.den)))))))))))) (by kernel_rfl) ?_
  intro h1 h2
  refine ⟨⟨⟨rfl, rfl⟩, ⟨Int.le_refl _, fun _ => fun _ => rfl⟩⟩, ?_, ?_, ?_, Int.le_refl _, fun _ => fun _ => rfl⟩
  · refine ⟨?_, Int.le_refl _, fun _ => fun _ => rfl⟩
    refine ⟨rfl, rfl, ?_⟩
    intro c5
    omega
  · refine ⟨?_, ?_⟩
    · rfl
    · rfl
  · refine ⟨rfl, ?_, ?_⟩
    · rfl
    · intro c6
      omega
def c_randomPoint (C : Int → Int) (n : Int) (p : Int) : Cn Try.prog := ⟨_, _, _, _, _, randomPoint C n p⟩
theorem anyPoint (C : Int → Int) (n : Int) (p : Int) : RunsTo Try.prog 8 [(.ptr 0 2 (.lit 0) 0)] [some ⟨37, 2, true, (.lit [[(.sl 1 1 (.lit 0) (.v fun _ => n) 2000), (.int .i64 (.v fun _ => p) 0 9999900)]])⟩, some ⟨5, 1, false, (.sym (.v fun _ => n) fun e => [(.int .u8 (.v fun _ => (C (e.den))) 0 255)])⟩] (.agg [(.int .i64 (.v fun _ => apX C n p) (-1001) 1001), (.int .i64 (.v fun _ => apY C n p) (-1001) 1001)]) [some ⟨37, 2, true, (.lit [[(.sl 1 1 (.lit 0) (.v fun _ => n) 2000), (.int .i64 (.v fun _ => apP C n p) 0 9999904)]])⟩, some ⟨5, 1, false, (.sym (.v fun _ => n) fun e => [(.int .u8 (.v fun _ => (C (e.den))) 0 255)])⟩] := by
  refine RunsTo.go env Try.func8 rfl Try.call8 rfl rfl (fun _ _ => (.call (c_randomPoint C n p) (.call (c_pick_16 C n (p + 1 + 1)) (.ite (.call (c_one_4 C n ((p + 1 + 1) + 1) (selL [1001, (-1001), 1000, (-1000)])) .ret) (.ite (.call (c_one_4 C n ((p + 1 + 1) + 1) (selL [1001, (-1001), 1000, (-1000)])) .ret) .ret))))) (G := (True) → (((0 ≤ n ∧ n ≤ 2000) ∧ (0 ≤ p ∧ p ≤ 9999900)) ∧ (∀ e16 : E, ((0 ≤ e16.den ∧ e16.den < n) → (0 ≤ ((C (e16.den))) ∧ ((C (e16.den))) ≤ 255)))) → ((((n = n) ∧ (p = p)) ∧ ((n ≤ n) ∧ (∀ e1 : E, ((0 ≤ e1.den ∧ e1.den < n) → (((C (e1.den))) = ((C (e1.den)))))))) ∧ ((((n = n) ∧ ((p + 1 + 1) = (p + 1 + 1))) ∧ ((n ≤ n) ∧ (∀ e2 : E, ((0 ≤ e2.den ∧ e2.den < n) → (((C (e2.den))) = ((C (e2.den)))))))) ∧ ((((pk C n (p + 1 + 1) 16) = 0) → ((((n = n) ∧ ((((p + 1 + 1) + 1) = ((p + 1 + 1) + 1)) ∧ ((0 ≤ ((p + 1 + 1) + 1) ∧ ((p + 1 + 1) + 1) ≤ 10000001) → (0 ≤ ((p + 1 + 1) + 1) ∧ ((p + 1 + 1) + 1) ≤ 9999990)))) ∧ (((∀ e7 : E, ((e7.den = 0) → ((1001 : Int) = (selL [1001, (-1001), 1000, (-1000)] (e7.den))))) ∧ ((∀ e6 : E, ((e6.den = 1) → (((-1001) : Int) = (selL [1001, (-1001), 1000, (-1000)] (e6.den))))) ∧ ((∀ e5 : E, ((e5.den = 2) → ((1000 : Int) = (selL [1001, (-1001), 1000, (-1000)] (e5.den))))) ∧ (∀ e4 : E, ((e4.den = 3) → (((-1000) : Int) = (selL [1001, (-1001), 1000, (-1000)] (e4.den)))))))) ∧ ((n ≤ n) ∧ (∀ e3 : E, ((0 ≤ e3.den ∧ e3.den < n) → (((C (e3.den))) = ((C (e3.den))))))))) ∧ (((((selL [1001, (-1001), 1000, (-1000)] (pk C n ((p + 1 + 1) + 1) 4))) = (apX C n p)) ∧ ((rpY C n p) = (apY C n p))) ∧ (((n = n) ∧ (((((p + 1 + 1) + 1) + 1) = (apP C n p)) ∧ ((0 ≤ (((p + 1 + 1) + 1) + 1) ∧ (((p + 1 + 1) + 1) + 1) ≤ 9999991) → (0 ≤ (apP C n p) ∧ (apP C n p) ≤ 9999904)))) ∧ ((n ≤ n) ∧ (∀ e8 : E, ((0 ≤ e8.den ∧ e8.den < n) → (((C (e8.den))) = ((C (e8.den))))))))))) ∧ (((pk C n (p + 1 + 1) 16) ≠ 0) → ((((pk C n (p + 1 + 1) 16) = 1) → ((((n = n) ∧ ((((p + 1 + 1) + 1) = ((p + 1 + 1) + 1)) ∧ ((0 ≤ ((p + 1 + 1) + 1) ∧ ((p + 1 + 1) + 1) ≤ 10000001) → (0 ≤ ((p + 1 + 1) + 1) ∧ ((p + 1 + 1) + 1) ≤ 9999990)))) ∧ (((∀ e13 : E, ((e13.den = 0) → ((1001 : Int) = (selL [1001, (-1001), 1000, (-1000)] (e13.den))))) ∧ ((∀ e12 : E, ((e12.den = 1) → (((-1001) : Int) = (selL [1001, (-1001), 1000, (-1000)] (e12.den))))) ∧ ((∀ e11 : E, ((e11.den = 2) → ((1000 : Int) = (selL [1001, (-1001), 1000, (-1000)] (e11.den))))) ∧ (∀ e10 : E, ((e10.den = 3) → (((-1000) : Int) = (selL [1001, (-1001), 1000, (-1000)] (e10.den)))))))) ∧ ((n ≤ n) ∧ (∀ e9 : E, ((0 ≤ e9.den ∧ e9.den < n) → (((C (e9.den))) = ((C (e9.den))))))))) ∧ ((((rpX C n p) = (apX C n p)) ∧ (((selL [1001, (-1001), 1000, (-1000)] (pk C n ((p + 1 + 1) + 1) 4))) = (apY C n p))) ∧ (((n = n) ∧ (((((p + 1 + 1) + 1) + 1) = (apP C n p)) ∧ ((0 ≤ (((p + 1 + 1) + 1) + 1) ∧ (((p + 1 + 1) + 1) + 1) ≤ 9999991) → (0 ≤ (apP C n p) ∧ (apP C n p) ≤ 9999904)))) ∧ ((n ≤ n) ∧ (∀ e14 : E, ((0 ≤ e14.den ∧ e14.den < n) → (((C (e14.den))) = ((C (e14.den))))))))))) ∧ (((pk C n (p + 1 + 1) 16) ≠ 1) → ((((rpX C n p) = (apX C n p)) ∧ ((rpY C n p) = (apY C n p))) ∧ (((n = n) ∧ ((((p + 1 + 1) + 1) = (apP C n p)) ∧ ((0 ≤ ((p + 1 + 1) + 1) ∧ ((p + 1 + 1) + 1) ≤ 10000001) → (0 ≤ (apP C n p) ∧ (apP C n p) ≤ 9999904)))) ∧ ((n ≤ n) ∧ (∀ e15 : E, ((0 ≤ e15.den ∧ e15.den < n) → (((C (e15.den))) = ((C (e15.den)))))))))))))))) (by kernel_rfl) ?_
  intro h1 h2
  refine ⟨⟨⟨rfl, rfl⟩, ⟨Int.le_refl _, fun _ => fun _ => rfl⟩⟩, ⟨⟨rfl, rfl⟩, ⟨Int.le_refl _, fun _ => fun _ => rfl⟩⟩, ?_, ?_⟩
  · intro c17
    refine ⟨?_, ?_, ?_, Int.le_refl _, fun _ => fun _ => rfl⟩
    · refine ⟨?_, ?_, Int.le_refl _, fun _ => fun _ => rfl⟩
      · refine ⟨rfl, rfl, ?_⟩
        intro c18
        omega
      · refine ⟨?_, ?_, ?_, ?_⟩
        · intro e7
          intro c19
          simp_all [selL]; done
        · intro e6
          intro c20
          simp_all [selL]; done
        · intro e5
          intro c21
          simp_all [selL]; done
        · intro e4
          intro c22
          simp_all [selL]; done
    · refine ⟨?_, ?_⟩
      · simp_all [apX, apY, apP, oneL]; done
      · simp_all [apX, apY, apP, oneL]; done
    · refine ⟨rfl, ?_, ?_⟩
      · simp_all [apX, apY, apP, oneL]; done
      · intro c23
        simp_all [apX, apY, apP, oneL]; omega
  · intro c24
    refine ⟨?_, ?_⟩
    · intro c25
      refine ⟨?_, ?_, ?_, Int.le_refl _, fun _ => fun _ => rfl⟩
      · refine ⟨?_, ?_, Int.le_refl _, fun _ => fun _ => rfl⟩
        · refine ⟨rfl, rfl, ?_⟩
          intro c26
          omega
        · refine ⟨?_, ?_, ?_, ?_⟩
          · intro e13
            intro c27
            simp_all [selL]; done
          · intro e12
            intro c28
            simp_all [selL]; done
          · intro e11
            intro c29
            simp_all [selL]; done
          · intro e10
            intro c30
            simp_all [selL]; done
      · refine ⟨?_, ?_⟩
        · simp_all [apX, apY, apP, oneL]; done
        · simp_all [apX, apY, apP, oneL]; done
      · refine ⟨rfl, ?_, ?_⟩
        · simp_all [apX, apY, apP, oneL]; done
        · intro c31
          simp_all [apX, apY, apP, oneL]; omega
    · intro c32
      refine ⟨?_, ?_, Int.le_refl _, fun _ => fun _ => rfl⟩
      · refine ⟨?_, ?_⟩
        · simp_all [apX, apY, apP, oneL]; done
        · simp_all [apX, apY, apP, oneL]; done
      · refine ⟨rfl, ?_, ?_⟩
        · simp_all [apX, apY, apP, oneL]; done
        · intro c33
          simp_all [apX, apY, apP, oneL]; omega
def c_anyPoint (C : Int → Int) (n : Int) (p : Int) : Cn Try.prog := ⟨_, _, _, _, _, anyPoint C n p⟩
def rn (C : Int → Int) (n p most : Int) : Int := pk C n (p + 1) (most + 1)
def gX (C : Int → Int) (n p i : Int) : Int := if pk C n p 6 = 1 then rpX C n (p + 2 + 2 * i) * 100 else rpX C n (p + 2 + 2 * i)
def gY (C : Int → Int) (n p i : Int) : Int := if pk C n p 6 = 0 then 2 * rpX C n (p + 2 + 2 * i) + 1 else if pk C n p 6 = 1 then rpY C n (p + 2 + 2 * i) * 37 else rpY C n (p + 2 + 2 * i)
def yP (C : Int → Int) (n p most : Int) : Int := p + 2 + 2 * rn C n p most
end Go.Proofs.Ytefikodgmhlfnaa
