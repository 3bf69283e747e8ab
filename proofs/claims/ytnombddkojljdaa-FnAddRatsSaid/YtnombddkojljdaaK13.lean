/- Products of fractions; fractions drawn. -/
import Derived.Test.YtnombddkojljdaaK11
import Derived.Test.YtnombddkojljdaaR3
set_option linter.unusedSimpArgs false
set_option linter.unusedVariables false
set_option maxRecDepth 100000
namespace Go.Proofs.Ytnombddkojljdaa
open Go.Sym
theorem mulBad_iff {x y : Int} : mulBad x y = true ↔ x ≠ 0 ∧ Int.tdiv 100000000000 (absI x) < absI y := by
  unfold mulBad absI
  rw [Bool.and_eq_true, decide_eq_true_eq, decide_eq_true_eq, Int.tdiv_eq_ediv_of_nonneg (by decide)]
theorem mul_w {aN aD bN bD : Int} (ha : okR aN aD = true) (hb : okR bN bD = true) (hn : mulBad (redN aN bD) (redN bN aD) = false) :
    IntKind.i64.wrap (redN aN bD * redN bN aD) = redN aN bD * redN bN aD ∧ IntKind.i64.wrap (redD aN bD * redD bN aD) = redD aN bD * redD bN aD ∧ (-4000000000000000000 ≤ redN aN bD * redN bN aD ∧ redN aN bD * redN bN aD ≤ 4000000000000000000) ∧
    1 ≤ redD aN bD * redD bN aD ∧ redD aN bD * redD bN aD ≤ 400000000000000 := by
  have oa := okR_bd ha
  have ob := okR_bd hb
  have n2 := redN_bd bN aD 100000000000 oa.2.1.1 ob.1.1 ob.1.2
  have d1 := redD_bd aN bD 20000000 ob.2.1.1 ob.2.1.2
  have d2 := redD_bd bN aD 20000000 oa.2.1.1 oa.2.1.2
  have p := not_bad _ _ hn n2
  have m1 := mul_bd (redD aN bD) (redD bN aD) 20000000 20000000 (by omega) (by omega) (by omega) (by omega)
  have m2 : 1 * 1 ≤ redD aN bD * redD bN aD := Int.mul_le_mul d1.1 d2.1 (by decide) (by omega)
  exact ⟨wrap_ok (by omega) (by omega), wrap_ok (by omega) (by omega), by omega, by omega, by omega⟩
def rrN (C : Int → Int) (n p : Int) : Int := redN (pk C n p 40 - 15) (1 + pk C n (p + 1) 9)
def rrD (C : Int → Int) (n p : Int) : Int := redD (pk C n p 40 - 15) (1 + pk C n (p + 1) 9)
def qS (C : Int → Int) (n p : Int) : Int := pk C n (p + 1 + 1) 16
def qN (C : Int → Int) (n p : Int) : Int := if qS C n p = 1 then 2 else if qS C n p = 2 then selL [100000000000, -100000000000, 100000000001] (pk C n (p + 1 + 1 + 1) 3) else rrN C n p
def qD (C : Int → Int) (n p : Int) : Int := if qS C n p = 0 then selL [0, -1, 20000001, 20000000] (pk C n (p + 1 + 1 + 1) 4) else if qS C n p = 1 then 4 else if qS C n p = 2 then 1 else rrD C n p
def qP (C : Int → Int) (n p : Int) : Int := if qS C n p = 0 then p + 1 + 1 + 1 + 1 else if qS C n p = 1 then p + 1 + 1 + 1 else if qS C n p = 2 then p + 1 + 1 + 1 + 1 else p + 1 + 1 + 1
theorem qP_bd (C : Int → Int) (n p : Int) : p + 3 ≤ qP C n p ∧ qP C n p ≤ p + 4 := by unfold qP; split <;> (try split) <;> (try split) <;> omega
theorem one_3w (C : Int → Int) (n : Int) (p : Int) (L : Int → Int) : RunsTo Try.prog 42 [(.ptr 0 2 (.lit 0) 0), (.sl 1 1 (.lit 0) (.lit 3) 3)] [some ⟨57, 2, true, (.lit [[(.sl 2 1 (.lit 0) (.v fun _ => n) 2000), (.int .i64 (.v fun _ => p) 0 9999990)]])⟩, some ⟨3, 1, true, (.sym (.lit 3) fun e => [(.int .i64 (.v fun _ => (L (e.den))) (-200000000000) 200000000000)])⟩, some ⟨5, 1, false, (.sym (.v fun _ => n) fun e => [(.int .u8 (.v fun _ => (C (e.den))) 0 255)])⟩] (.int .i64 (.v fun _ => (L (pk C n p 3))) (-200000000000) 200000000000) [some ⟨57, 2, true, (.lit [[(.sl 2 1 (.lit 0) (.v fun _ => n) 2000), (.int .i64 (.v fun _ => p + 1) 0 9999991)]])⟩, some ⟨3, 1, true, (.sym (.lit 3) fun e => [(.int .i64 (.v fun _ => (L (e.den))) (-200000000000) 200000000000)])⟩, some ⟨5, 1, false, (.sym (.v fun _ => n) fun e => [(.int .u8 (.v fun _ => (C (e.den))) 0 255)])⟩] := by
  refine RunsTo.go env Try.func42 rfl Try.call42 rfl rfl (fun _ _ => (.callF (c_pick_3 C n p) (.need (.need .ret)))) (G := (True) → (((0 ≤ n ∧ n ≤ 2000) ∧ (0 ≤ p ∧ p ≤ 9999990)) ∧ ((∀ e5 : E, ((0 ≤ e5.den ∧ e5.den < 3) → ((-200000000000) ≤ ((L (e5.den))) ∧ ((L (e5.den))) ≤ 200000000000))) ∧ (∀ e4 : E, ((0 ≤ e4.den ∧ e4.den < n) → (0 ≤ ((C (e4.den))) ∧ ((C (e4.den))) ≤ 255))))) → (((0 ≤ (3 : Int) ∧ (3 : Int) ≤ 3) → (3 ≤ (3 : Int) ∧ (3 : Int) ≤ 3)) ∧ ((((n = n) ∧ (p = p)) ∧ ((n ≤ n) ∧ (∀ e1 : E, ((0 ≤ e1.den ∧ e1.den < n) → (((C (e1.den))) = ((C (e1.den)))))))) ∧ ((0 ≤ (pk C n p 3) ∧ (pk C n p 3) ≤ 2) → ((((0 ≤ (pk C n p 3)) ∧ ((pk C n p 3) < 3))) ∧ (((pk C n p 3) < 3) ∧ ((((L (pk C n p 3))) = ((L (pk C n p 3)))) ∧ (((n = n) ∧ (((p + 1) = (p + 1)) ∧ ((0 ≤ (p + 1) ∧ (p + 1) ≤ 10000001) → (0 ≤ (p + 1) ∧ (p + 1) ≤ 9999991)))) ∧ ((((3 : Int) ≤ 3) ∧ (∀ e3 : E, ((0 ≤ e3.den ∧ e3.den < 3) → (((L (e3.den))) = ((L (e3.den))))))) ∧ ((n ≤ n) ∧ (∀ e2 : E, ((0 ≤ e2.den ∧ e2.den < n) → (((C (e2.den))) = ((C (e2.den)))))))))))))))) (by kernel_rfl) ?_
  intro h1 h2
  refine ⟨?_, ⟨⟨rfl, rfl⟩, ⟨Int.le_refl _, fun _ => fun _ => rfl⟩⟩, ?_⟩
  · intro c6
    omega
  · intro c7
    refine ⟨?_, ?_, rfl, ?_, ⟨Int.le_refl _, fun _ => fun _ => rfl⟩, Int.le_refl _, fun _ => fun _ => rfl⟩
    · omega
    · omega
    · refine ⟨rfl, rfl, ?_⟩
      intro c8
      omega
def c_one_3w (C : Int → Int) (n : Int) (p : Int) (L : Int → Int) : Cn Try.prog := ⟨_, _, _, _, _, one_3w C n p L⟩
theorem one_4w (C : Int → Int) (n : Int) (p : Int) (L : Int → Int) : RunsTo Try.prog 42 [(.ptr 0 2 (.lit 0) 0), (.sl 1 1 (.lit 0) (.lit 4) 4)] [some ⟨57, 2, true, (.lit [[(.sl 2 1 (.lit 0) (.v fun _ => n) 2000), (.int .i64 (.v fun _ => p) 0 9999990)]])⟩, some ⟨3, 1, true, (.sym (.lit 4) fun e => [(.int .i64 (.v fun _ => (L (e.den))) (-200000000000) 200000000000)])⟩, some ⟨5, 1, false, (.sym (.v fun _ => n) fun e => [(.int .u8 (.v fun _ => (C (e.den))) 0 255)])⟩] (.int .i64 (.v fun _ => (L (pk C n p 4))) (-200000000000) 200000000000) [some ⟨57, 2, true, (.lit [[(.sl 2 1 (.lit 0) (.v fun _ => n) 2000), (.int .i64 (.v fun _ => p + 1) 0 9999991)]])⟩, some ⟨3, 1, true, (.sym (.lit 4) fun e => [(.int .i64 (.v fun _ => (L (e.den))) (-200000000000) 200000000000)])⟩, some ⟨5, 1, false, (.sym (.v fun _ => n) fun e => [(.int .u8 (.v fun _ => (C (e.den))) 0 255)])⟩] := by
  refine RunsTo.go env Try.func42 rfl Try.call42 rfl rfl (fun _ _ => (.callF (c_pick_4 C n p) (.need (.need .ret)))) (G := (True) → (((0 ≤ n ∧ n ≤ 2000) ∧ (0 ≤ p ∧ p ≤ 9999990)) ∧ ((∀ e5 : E, ((0 ≤ e5.den ∧ e5.den < 4) → ((-200000000000) ≤ ((L (e5.den))) ∧ ((L (e5.den))) ≤ 200000000000))) ∧ (∀ e4 : E, ((0 ≤ e4.den ∧ e4.den < n) → (0 ≤ ((C (e4.den))) ∧ ((C (e4.den))) ≤ 255))))) → (((0 ≤ (4 : Int) ∧ (4 : Int) ≤ 4) → (4 ≤ (4 : Int) ∧ (4 : Int) ≤ 4)) ∧ ((((n = n) ∧ (p = p)) ∧ ((n ≤ n) ∧ (∀ e1 : E, ((0 ≤ e1.den ∧ e1.den < n) → (((C (e1.den))) = ((C (e1.den)))))))) ∧ ((0 ≤ (pk C n p 4) ∧ (pk C n p 4) ≤ 3) → ((((0 ≤ (pk C n p 4)) ∧ ((pk C n p 4) < 4))) ∧ (((pk C n p 4) < 4) ∧ ((((L (pk C n p 4))) = ((L (pk C n p 4)))) ∧ (((n = n) ∧ (((p + 1) = (p + 1)) ∧ ((0 ≤ (p + 1) ∧ (p + 1) ≤ 10000001) → (0 ≤ (p + 1) ∧ (p + 1) ≤ 9999991)))) ∧ ((((4 : Int) ≤ 4) ∧ (∀ e3 : E, ((0 ≤ e3.den ∧ e3.den < 4) → (((L (e3.den))) = ((L (e3.den))))))) ∧ ((n ≤ n) ∧ (∀ e2 : E, ((0 ≤ e2.den ∧ e2.den < n) → (((C (e2.den))) = ((C (e2.den)))))))))))))))) (by kernel_rfl) ?_
  intro h1 h2
  refine ⟨?_, ⟨⟨rfl, rfl⟩, ⟨Int.le_refl _, fun _ => fun _ => rfl⟩⟩, ?_⟩
  · intro c6
    omega
  · intro c7
    refine ⟨?_, ?_, rfl, ?_, ⟨Int.le_refl _, fun _ => fun _ => rfl⟩, Int.le_refl _, fun _ => fun _ => rfl⟩
    · omega
    · omega
    · refine ⟨rfl, rfl, ?_⟩
      intro c8
      omega
def c_one_4w (C : Int → Int) (n : Int) (p : Int) (L : Int → Int) : Cn Try.prog := ⟨_, _, _, _, _, one_4w C n p L⟩
theorem randomRat (C : Int → Int) (n : Int) (p : Int) : RunsTo Try.prog 61 [(.ptr 0 2 (.lit 0) 0)] [some ⟨57, 2, true, (.lit [[(.sl 1 1 (.lit 0) (.v fun _ => n) 2000), (.int .i64 (.v fun _ => p) 0 9999900)]])⟩, some ⟨5, 1, false, (.sym (.v fun _ => n) fun e => [(.int .u8 (.v fun _ => (C (e.den))) 0 255)])⟩] (.agg [(.int .i64 (.v fun _ => rrN C n p) (-40) 40), (.int .i64 (.v fun _ => rrD C n p) 1 10)]) [some ⟨57, 2, true, (.lit [[(.sl 1 1 (.lit 0) (.v fun _ => n) 2000), (.int .i64 (.v fun _ => p + 1 + 1) 0 9999902)]])⟩, some ⟨5, 1, false, (.sym (.v fun _ => n) fun e => [(.int .u8 (.v fun _ => (C (e.den))) 0 255)])⟩] := by
  refine RunsTo.go env Try.func61 rfl Try.call61 rfl rfl (fun _ _ => (.call (c_pick_40 C n p) (.call (c_pick_9 C n (p + 1)) (.callH (c_s_ratio ((pk C n p 40) - 15) (1 + (pk C n (p + 1) 9))) .ret)))) (G := (True) → (((0 ≤ n ∧ n ≤ 2000) ∧ (0 ≤ p ∧ p ≤ 9999900)) ∧ (∀ e4 : E, ((0 ≤ e4.den ∧ e4.den < n) → (0 ≤ ((C (e4.den))) ∧ ((C (e4.den))) ≤ 255)))) → ((((n = n) ∧ (p = p)) ∧ ((n ≤ n) ∧ (∀ e1 : E, ((0 ≤ e1.den ∧ e1.den < n) → (((C (e1.den))) = ((C (e1.den)))))))) ∧ ((((n = n) ∧ (((p + 1) = (p + 1)) ∧ ((0 ≤ (p + 1) ∧ (p + 1) ≤ 10000001) → (0 ≤ (p + 1) ∧ (p + 1) ≤ 10000000)))) ∧ ((n ≤ n) ∧ (∀ e2 : E, ((0 ≤ e2.den ∧ e2.den < n) → (((C (e2.den))) = ((C (e2.den)))))))) ∧ ((((1 + (pk C n (p + 1) 9)) : Int) ≠ 0) ∧ (((((pk C n p 40) - 15) = ((pk C n p 40) - 15)) ∧ ((1 + (pk C n (p + 1) 9)) = (1 + (pk C n (p + 1) 9)))) ∧ (((((redN ((pk C n p 40) - 15) (1 + (pk C n (p + 1) 9))) = (rrN C n p)) ∧ (((-4000000000000000000) ≤ (redN ((pk C n p 40) - 15) (1 + (pk C n (p + 1) 9))) ∧ (redN ((pk C n p 40) - 15) (1 + (pk C n (p + 1) 9))) ≤ 4000000000000000000) → ((-40) ≤ (rrN C n p) ∧ (rrN C n p) ≤ 40))) ∧ (((redD ((pk C n p 40) - 15) (1 + (pk C n (p + 1) 9))) = (rrD C n p)) ∧ (((-4000000000000000000) ≤ (redD ((pk C n p 40) - 15) (1 + (pk C n (p + 1) 9))) ∧ (redD ((pk C n p 40) - 15) (1 + (pk C n (p + 1) 9))) ≤ 4000000000000000000) → (1 ≤ (rrD C n p) ∧ (rrD C n p) ≤ 10)))) ∧ (((n = n) ∧ ((((p + 1) + 1) = (p + 1 + 1)) ∧ ((0 ≤ ((p + 1) + 1) ∧ ((p + 1) + 1) ≤ 10000001) → (0 ≤ (p + 1 + 1) ∧ (p + 1 + 1) ≤ 9999902)))) ∧ ((n ≤ n) ∧ (∀ e3 : E, ((0 ≤ e3.den ∧ e3.den < n) → (((C (e3.den))) = ((C (e3.den)))))))))))))) (by kernel_rfl) ?_
  intro h1 h2
  have hC : ∀ i, 0 ≤ i → i < n → 0 ≤ C i ∧ C i ≤ 255 := fun i a b => h2.2 (.v fun _ => i) ⟨a, b⟩
  have b1 := pk_bd (p := p) (k := 40) hC (by omega) (by omega) (by omega) (by omega)
  have b2 := pk_bd (p := p + 1) (k := 9) hC (by omega) (by omega) (by omega) (by omega)
  have b3 := redN_bd (pk C n p 40 - 15) (1 + pk C n (p + 1) 9) 40 (by omega) (by omega) (by omega)
  have b4 := redD_bd (pk C n p 40 - 15) (1 + pk C n (p + 1) 9) 10 (by omega) (by omega)
  refine ⟨⟨⟨rfl, rfl⟩, ⟨Int.le_refl _, fun _ => fun _ => rfl⟩⟩, ?_, ?_, ⟨rfl, rfl⟩, ?_, ?_, Int.le_refl _, fun _ => fun _ => rfl⟩
  · refine ⟨?_, Int.le_refl _, fun _ => fun _ => rfl⟩
    refine ⟨rfl, rfl, ?_⟩
    intro c5
    omega
  · omega
  · refine ⟨?_, ?_, ?_⟩
    · refine ⟨?_, ?_⟩
      · rfl
      · intro c6
        exact b3
    · rfl
    · intro c7
      exact b4
  · refine ⟨rfl, ?_, ?_⟩
    · rfl
    · intro c8
      omega
def c_randomRat (C : Int → Int) (n : Int) (p : Int) : Cn Try.prog := ⟨_, _, _, _, _, randomRat C n p⟩
theorem anyRat (C : Int → Int) (n : Int) (p : Int) : RunsTo Try.prog 54 [(.ptr 0 2 (.lit 0) 0)] [some ⟨57, 2, true, (.lit [[(.sl 1 1 (.lit 0) (.v fun _ => n) 2000), (.int .i64 (.v fun _ => p) 0 9999800)]])⟩, some ⟨5, 1, false, (.sym (.v fun _ => n) fun e => [(.int .u8 (.v fun _ => (C (e.den))) 0 255)])⟩] (.agg [(.int .i64 (.v fun _ => qN C n p) (-200000000000) 200000000000), (.int .i64 (.v fun _ => qD C n p) (-200000000000) 200000000000)]) [some ⟨57, 2, true, (.lit [[(.sl 1 1 (.lit 0) (.v fun _ => n) 2000), (.int .i64 (.v fun _ => qP C n p) 0 9999810)]])⟩, some ⟨5, 1, false, (.sym (.v fun _ => n) fun e => [(.int .u8 (.v fun _ => (C (e.den))) 0 255)])⟩] := by
  refine RunsTo.go env Try.func54 rfl Try.call54 rfl rfl (fun _ _ => (.call (c_randomRat C n p) (.call (c_pick_16 C n (p + 1 + 1)) (.ite (.call (c_one_4w C n ((p + 1 + 1) + 1) (selL [0, (-1), 20000001, 20000000])) .ret) (.ite .ret (.ite (.call (c_one_3w C n ((p + 1 + 1) + 1) (selL [100000000000, (-100000000000), 100000000001])) .ret) .ret)))))) (G := (True) → (((0 ≤ n ∧ n ≤ 2000) ∧ (0 ≤ p ∧ p ≤ 9999800)) ∧ (∀ e16 : E, ((0 ≤ e16.den ∧ e16.den < n) → (0 ≤ ((C (e16.den))) ∧ ((C (e16.den))) ≤ 255)))) → ((((n = n) ∧ (p = p)) ∧ ((n ≤ n) ∧ (∀ e1 : E, ((0 ≤ e1.den ∧ e1.den < n) → (((C (e1.den))) = ((C (e1.den)))))))) ∧ ((((n = n) ∧ ((p + 1 + 1) = (p + 1 + 1))) ∧ ((n ≤ n) ∧ (∀ e2 : E, ((0 ≤ e2.den ∧ e2.den < n) → (((C (e2.den))) = ((C (e2.den)))))))) ∧ ((((pk C n (p + 1 + 1) 16) = 0) → ((((n = n) ∧ ((((p + 1 + 1) + 1) = ((p + 1 + 1) + 1)) ∧ ((0 ≤ ((p + 1 + 1) + 1) ∧ ((p + 1 + 1) + 1) ≤ 10000001) → (0 ≤ ((p + 1 + 1) + 1) ∧ ((p + 1 + 1) + 1) ≤ 9999990)))) ∧ (((∀ e7 : E, ((e7.den = 0) → ((0 : Int) = (selL [0, (-1), 20000001, 20000000] (e7.den))))) ∧ ((∀ e6 : E, ((e6.den = 1) → (((-1) : Int) = (selL [0, (-1), 20000001, 20000000] (e6.den))))) ∧ ((∀ e5 : E, ((e5.den = 2) → ((20000001 : Int) = (selL [0, (-1), 20000001, 20000000] (e5.den))))) ∧ (∀ e4 : E, ((e4.den = 3) → ((20000000 : Int) = (selL [0, (-1), 20000001, 20000000] (e4.den)))))))) ∧ ((n ≤ n) ∧ (∀ e3 : E, ((0 ≤ e3.den ∧ e3.den < n) → (((C (e3.den))) = ((C (e3.den))))))))) ∧ ((((rrN C n p) = (qN C n p)) ∧ (((selL [0, (-1), 20000001, 20000000] (pk C n ((p + 1 + 1) + 1) 4))) = (qD C n p))) ∧ (((n = n) ∧ (((((p + 1 + 1) + 1) + 1) = (qP C n p)) ∧ ((0 ≤ (((p + 1 + 1) + 1) + 1) ∧ (((p + 1 + 1) + 1) + 1) ≤ 9999991) → (0 ≤ (qP C n p) ∧ (qP C n p) ≤ 9999810)))) ∧ ((n ≤ n) ∧ (∀ e8 : E, ((0 ≤ e8.den ∧ e8.den < n) → (((C (e8.den))) = ((C (e8.den))))))))))) ∧ (((pk C n (p + 1 + 1) 16) ≠ 0) → ((((pk C n (p + 1 + 1) 16) = 1) → ((((2 : Int) = (qN C n p)) ∧ ((4 : Int) = (qD C n p))) ∧ (((n = n) ∧ ((((p + 1 + 1) + 1) = (qP C n p)) ∧ ((0 ≤ ((p + 1 + 1) + 1) ∧ ((p + 1 + 1) + 1) ≤ 10000001) → (0 ≤ (qP C n p) ∧ (qP C n p) ≤ 9999810)))) ∧ ((n ≤ n) ∧ (∀ e9 : E, ((0 ≤ e9.den ∧ e9.den < n) → (((C (e9.den))) = ((C (e9.den)))))))))) ∧ (((pk C n (p + 1 + 1) 16) ≠ 1) → ((((pk C n (p + 1 + 1) 16) = 2) → ((((n = n) ∧ ((((p + 1 + 1) + 1) = ((p + 1 + 1) + 1)) ∧ ((0 ≤ ((p + 1 + 1) + 1) ∧ ((p + 1 + 1) + 1) ≤ 10000001) → (0 ≤ ((p + 1 + 1) + 1) ∧ ((p + 1 + 1) + 1) ≤ 9999990)))) ∧ (((∀ e13 : E, ((e13.den = 0) → ((100000000000 : Int) = (selL [100000000000, (-100000000000), 100000000001] (e13.den))))) ∧ ((∀ e12 : E, ((e12.den = 1) → (((-100000000000) : Int) = (selL [100000000000, (-100000000000), 100000000001] (e12.den))))) ∧ (∀ e11 : E, ((e11.den = 2) → ((100000000001 : Int) = (selL [100000000000, (-100000000000), 100000000001] (e11.den))))))) ∧ ((n ≤ n) ∧ (∀ e10 : E, ((0 ≤ e10.den ∧ e10.den < n) → (((C (e10.den))) = ((C (e10.den))))))))) ∧ (((((selL [100000000000, (-100000000000), 100000000001] (pk C n ((p + 1 + 1) + 1) 3))) = (qN C n p)) ∧ ((1 : Int) = (qD C n p))) ∧ (((n = n) ∧ (((((p + 1 + 1) + 1) + 1) = (qP C n p)) ∧ ((0 ≤ (((p + 1 + 1) + 1) + 1) ∧ (((p + 1 + 1) + 1) + 1) ≤ 9999991) → (0 ≤ (qP C n p) ∧ (qP C n p) ≤ 9999810)))) ∧ ((n ≤ n) ∧ (∀ e14 : E, ((0 ≤ e14.den ∧ e14.den < n) → (((C (e14.den))) = ((C (e14.den))))))))))) ∧ (((pk C n (p + 1 + 1) 16) ≠ 2) → ((((rrN C n p) = (qN C n p)) ∧ ((rrD C n p) = (qD C n p))) ∧ (((n = n) ∧ ((((p + 1 + 1) + 1) = (qP C n p)) ∧ ((0 ≤ ((p + 1 + 1) + 1) ∧ ((p + 1 + 1) + 1) ≤ 10000001) → (0 ≤ (qP C n p) ∧ (qP C n p) ≤ 9999810)))) ∧ ((n ≤ n) ∧ (∀ e15 : E, ((0 ≤ e15.den ∧ e15.den < n) → (((C (e15.den))) = ((C (e15.den)))))))))))))))))) (by kernel_rfl) ?_
  intro h1 h2
  refine ⟨⟨⟨rfl, rfl⟩, ⟨Int.le_refl _, fun _ => fun _ => rfl⟩⟩, ⟨⟨rfl, rfl⟩, ⟨Int.le_refl _, fun _ => fun _ => rfl⟩⟩, ?_, ?_⟩
  · intro c17
    refine ⟨?_, ?_, ?_, Int.le_refl _, fun _ => fun _ => rfl⟩
    · refine ⟨?_, ?_, Int.le_refl _, fun _ => fun _ => rfl⟩
      · refine ⟨rfl, rfl, ?_⟩
        intro c18
        omega
      · refine ⟨?_, ?_, ?_, ?_⟩
        · intro e7
          intro c19
          simp_all [selL]; done
        · intro e6
          intro c20
          simp_all [selL]; done
        · intro e5
          intro c21
          simp_all [selL]; done
        · intro e4
          intro c22
          simp_all [selL]; done
    · refine ⟨?_, ?_⟩
      · simp_all [qN, qD, qP, qS]; done
      · simp_all [qN, qD, qP, qS]; done
    · refine ⟨rfl, ?_, ?_⟩
      · simp_all [qN, qD, qP, qS]; done
      · intro c23
        simp_all [qN, qD, qP, qS]; omega
  · intro c24
    refine ⟨?_, ?_⟩
    · intro c25
      refine ⟨?_, ?_, Int.le_refl _, fun _ => fun _ => rfl⟩
      · refine ⟨?_, ?_⟩
        · simp_all [qN, qD, qP, qS]; done
        · simp_all [qN, qD, qP, qS]; done
      · refine ⟨rfl, ?_, ?_⟩
        · simp_all [qN, qD, qP, qS]; done
        · intro c26
          simp_all [qN, qD, qP, qS]; omega
    · intro c27
      refine ⟨?_, ?_⟩
      · intro c28
        refine ⟨?_, ?_, ?_, Int.le_refl _, fun _ => fun _ => rfl⟩
        · refine ⟨?_, ?_, Int.le_refl _, fun _ => fun _ => rfl⟩
          · refine ⟨rfl, rfl, ?_⟩
            intro c29
            omega
          · refine ⟨?_, ?_, ?_⟩
            · intro e13
              intro c30
              simp_all [selL]; done
            · intro e12
              intro c31
              simp_all [selL]; done
            · intro e11
              intro c32
              simp_all [selL]; done
        · refine ⟨?_, ?_⟩
          · simp_all [qN, qD, qP, qS]; done
          · simp_all [qN, qD, qP, qS]; done
        · refine ⟨rfl, ?_, ?_⟩
          · simp_all [qN, qD, qP, qS]; done
          · intro c33
            simp_all [qN, qD, qP, qS]; omega
      · intro c34
        refine ⟨?_, ?_, Int.le_refl _, fun _ => fun _ => rfl⟩
        · refine ⟨?_, ?_⟩
          · simp_all [qN, qD, qP, qS]; done
          · simp_all [qN, qD, qP, qS]; done
        · refine ⟨rfl, ?_, ?_⟩
          · simp_all [qN, qD, qP, qS]; done
          · intro c35
            simp_all [qN, qD, qP, qS]; omega
def c_anyRat (C : Int → Int) (n : Int) (p : Int) : Cn Try.prog := ⟨_, _, _, _, _, anyRat C n p⟩
def f1N (C : Int → Int) (n : Int) : Int := qN C (cut n) 0
def f1D (C : Int → Int) (n : Int) : Int := qD C (cut n) 0
def f2N (C : Int → Int) (n : Int) : Int := qN C (cut n) (qP C (cut n) 0)
def f2D (C : Int → Int) (n : Int) : Int := qD C (cut n) (qP C (cut n) 0)
theorem s_twoRats (C : Int → Int) (n : Int) : RunsTo Try.prog 33 [(.sl 0 1 (.lit 0) (.v fun _ => n) 9223372036854775807)] [some ⟨5, 1, false, (.sym (.v fun _ => n) fun e => [(.int .u8 (.v fun _ => (C (e.den))) 0 255)])⟩] (.tup [(.agg [(.int .i64 (.v fun _ => f1N C n) (-200000000000) 200000000000), (.int .i64 (.v fun _ => f1D C n) (-200000000000) 200000000000)]), (.agg [(.int .i64 (.v fun _ => f2N C n) (-200000000000) 200000000000), (.int .i64 (.v fun _ => f2D C n) (-200000000000) 200000000000)])]) [some ⟨5, 1, false, (.sym (.v fun _ => cut n) fun e => [(.int .u8 (.v fun _ => (C (e.den))) 0 255)])⟩] := by
  refine RunsTo.go env Try.func33 rfl Try.call33 rfl rfl (fun _ _ => (.call (c_s_newReader C n) (.call (c_anyRat C (cut n) 0) (.call (c_anyRat C (cut n) (qP C (cut n) 0)) .ret)))) (G := (0 ≤ n ∧ n ≤ 9223372036854775807) → (∀ e5 : E, ((0 ≤ e5.den ∧ e5.den < n) → (0 ≤ ((C (e5.den))) ∧ ((C (e5.den))) ≤ 255))) → ((n = n) ∧ (((n ≤ n) ∧ (∀ e1 : E, ((0 ≤ e1.den ∧ e1.den < n) → (((C (e1.den))) = ((C (e1.den))))))) ∧ (((((cut n) = (cut n)) ∧ ((0 : Int) = 0)) ∧ (((cut n) ≤ (cut n)) ∧ (∀ e2 : E, ((0 ≤ e2.den ∧ e2.den < (cut n)) → (((C (e2.den))) = ((C (e2.den)))))))) ∧ (((((cut n) = (cut n)) ∧ (((qP C (cut n) 0) = (qP C (cut n) 0)) ∧ ((0 ≤ (qP C (cut n) 0) ∧ (qP C (cut n) 0) ≤ 9999810) → (0 ≤ (qP C (cut n) 0) ∧ (qP C (cut n) 0) ≤ 9999800)))) ∧ (((cut n) ≤ (cut n)) ∧ (∀ e3 : E, ((0 ≤ e3.den ∧ e3.den < (cut n)) → (((C (e3.den))) = ((C (e3.den)))))))) ∧ (((((qN C (cut n) 0) = (f1N C n)) ∧ ((qD C (cut n) 0) = (f1D C n))) ∧ (((qN C (cut n) (qP C (cut n) 0)) = (f2N C n)) ∧ ((qD C (cut n) (qP C (cut n) 0)) = (f2D C n)))) ∧ (((cut n) ≤ (cut n)) ∧ (∀ e4 : E, ((0 ≤ e4.den ∧ e4.den < (cut n)) → (((C (e4.den))) = ((C (e4.den))))))))))))) (by kernel_rfl) ?_
  intro h1 h2
  have a1 := qP_bd C (cut n) 0
  refine ⟨rfl, ⟨Int.le_refl _, fun _ => fun _ => rfl⟩, ⟨⟨rfl, rfl⟩, ⟨Int.le_refl _, fun _ => fun _ => rfl⟩⟩, ?_, ?_, Int.le_refl _, fun _ => fun _ => rfl⟩
  · refine ⟨?_, Int.le_refl _, fun _ => fun _ => rfl⟩
    refine ⟨rfl, rfl, ?_⟩
    intro c6
    -- 1: 0 ≤ (qP C (cut n) 0) ∧ (qP C (cut n) 0) ≤ 9999800
    first | rfl | omega
  · refine ⟨?_, ?_, ?_⟩
    · refine ⟨?_, ?_⟩
        -- 2: (qN C (cut n) 0) = (f1N C n)
      · first | rfl | omega
        -- 3: (qD C (cut n) 0) = (f1D C n)
      · first | rfl | omega
      -- 4: (qN C (cut n) (qP C (cut n) 0)) = (f2N C n)
    · first | rfl | omega
      -- 5: (qD C (cut n) (qP C (cut n) 0)) = (f2D C n)
    · first | rfl | omega
def c_s_twoRats (C : Int → Int) (n : Int) : Cn Try.prog := ⟨_, _, _, _, _, s_twoRats C n⟩
theorem s_DrawAddRats (C : Int → Int) (n : Int) : RunsTo Try.prog 14 [(.sl 0 1 (.lit 0) (.v fun _ => n) 9223372036854775807)] [some ⟨5, 1, false, (.sym (.v fun _ => n) fun e => [(.int .u8 (.v fun _ => (C (e.den))) 0 255)])⟩] (.tup [(.agg [(.int .i64 (.v fun _ => f1N C n) (-200000000000) 200000000000), (.int .i64 (.v fun _ => f1D C n) (-200000000000) 200000000000)]), (.agg [(.int .i64 (.v fun _ => f2N C n) (-200000000000) 200000000000), (.int .i64 (.v fun _ => f2D C n) (-200000000000) 200000000000)])]) [some ⟨5, 1, false, (.sym (.v fun _ => cut n) fun e => [(.int .u8 (.v fun _ => (C (e.den))) 0 255)])⟩] := by
  refine RunsTo.go env Try.func14 rfl Try.call14 rfl rfl (fun _ _ => (.call (c_s_twoRats C n) .ret)) (G := (0 ≤ n ∧ n ≤ 9223372036854775807) → (∀ e3 : E, ((0 ≤ e3.den ∧ e3.den < n) → (0 ≤ ((C (e3.den))) ∧ ((C (e3.den))) ≤ 255))) → ((n = n) ∧ (((n ≤ n) ∧ (∀ e1 : E, ((0 ≤ e1.den ∧ e1.den < n) → (((C (e1.den))) = ((C (e1.den))))))) ∧ (((((f1N C n) = (f1N C n)) ∧ ((f1D C n) = (f1D C n))) ∧ (((f2N C n) = (f2N C n)) ∧ ((f2D C n) = (f2D C n)))) ∧ (((cut n) ≤ (cut n)) ∧ (∀ e2 : E, ((0 ≤ e2.den ∧ e2.den < (cut n)) → (((C (e2.den))) = ((C (e2.den))))))))))) (by kernel_rfl) ?_
  intro h1 h2
  exact ⟨rfl, ⟨⟨Int.le_refl _, fun _ => fun _ => rfl⟩, ⟨⟨⟨rfl, rfl⟩, ⟨rfl, rfl⟩⟩, ⟨Int.le_refl _, fun _ => fun _ => rfl⟩⟩⟩⟩
def c_s_DrawAddRats (C : Int → Int) (n : Int) : Cn Try.prog := ⟨_, _, _, _, _, s_DrawAddRats C n⟩
end Go.Proofs.Ytnombddkojljdaa
