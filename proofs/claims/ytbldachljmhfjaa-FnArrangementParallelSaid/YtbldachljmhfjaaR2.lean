/- Points drawn. -/
import Derived.Test.YtbldachljmhfjaaR1
set_option linter.unusedSimpArgs false
set_option linter.unusedVariables false
set_option maxRecDepth 100000
namespace Go.Proofs.Ytbldachljmhfjaa
open Go.Sym
def rpX (C : Int → Int) (n p : Int) : Int := pk C n p 9 - 2
def rpY (C : Int → Int) (n p : Int) : Int := pk C n (p + 1) 9 - 2
def oneL (k : Int) : Int := selL [1001, -1001, 1000, -1000] k
def apX (C : Int → Int) (n p : Int) : Int := if pk C n (p + 1 + 1) 16 = 0 then oneL (pk C n (p + 1 + 1 + 1) 4) else rpX C n p
def apY (C : Int → Int) (n p : Int) : Int := if pk C n (p + 1 + 1) 16 = 1 then oneL (pk C n (p + 1 + 1 + 1) 4) else rpY C n p
def apP (C : Int → Int) (n p : Int) : Int := if pk C n (p + 1 + 1) 16 = 0 then p + 1 + 1 + 1 + 1 else if pk C n (p + 1 + 1) 16 = 1 then p + 1 + 1 + 1 + 1 else p + 1 + 1 + 1
theorem apP_bd (C : Int → Int) (n p : Int) : p + 3 ≤ apP C n p ∧ apP C n p ≤ p + 4 := by unfold apP; split <;> (try split) <;> omega
theorem one_4 (C : Int → Int) (n : Int) (p : Int) (L : Int → Int) : RunsTo Try.prog 56 [(.ptr 0 2 (.lit 0) 0), (.sl 1 1 (.lit 0) (.lit 4) 4)] [some ⟨96, 2, true, (.lit [[(.sl 2 1 (.lit 0) (.v fun _ => n) 2000), (.int .i64 (.v fun _ => p) 0 9999990)]])⟩, some ⟨3, 1, true, (.sym (.lit 4) fun e => [(.int .i64 (.v fun _ => (L (e.den))) (-1001) 1001)])⟩, some ⟨5, 1, false, (.sym (.v fun _ => n) fun e => [(.int .u8 (.v fun _ => (C (e.den))) 0 255)])⟩] (.int .i64 (.v fun _ => (L (pk C n p 4))) (-1001) 1001) [some ⟨96, 2, true, (.lit [[(.sl 2 1 (.lit 0) (.v fun _ => n) 2000), (.int .i64 (.v fun _ => p + 1) 0 9999991)]])⟩, some ⟨3, 1, true, (.sym (.lit 4) fun e => [(.int .i64 (.v fun _ => (L (e.den))) (-1001) 1001)])⟩, some ⟨5, 1, false, (.sym (.v fun _ => n) fun e => [(.int .u8 (.v fun _ => (C (e.den))) 0 255)])⟩] := by
  refine RunsTo.go env Try.func56 rfl Try.call56 rfl rfl (fun _ _ => (.callF (c_pick_4 C n p) (.need (.need .ret)))) (G := (True) → (((0 ≤ n ∧ n ≤ 2000) ∧ (0 ≤ p ∧ p ≤ 9999990)) ∧ ((∀ e5 : E, ((0 ≤ e5.den ∧ e5.den < 4) → ((-1001) ≤ ((L (e5.den))) ∧ ((L (e5.den))) ≤ 1001))) ∧ (∀ e4 : E, ((0 ≤ e4.den ∧ e4.den < n) → (0 ≤ ((C (e4.den))) ∧ ((C (e4.den))) ≤ 255))))) → (((0 ≤ (4 : Int) ∧ (4 : Int) ≤ 4) → (4 ≤ (4 : Int) ∧ (4 : Int) ≤ 4)) ∧ ((((n = n) ∧ (p = p)) ∧ ((n ≤ n) ∧ (∀ e1 : E, ((0 ≤ e1.den ∧ e1.den < n) → (((C (e1.den))) = ((C (e1.den)))))))) ∧ ((0 ≤ (pk C n p 4) ∧ (pk C n p 4) ≤ 3) → ((((0 ≤ (pk C n p 4)) ∧ ((pk C n p 4) < 4))) ∧ (((pk C n p 4) < 4) ∧ ((((L (pk C n p 4))) = ((L (pk C n p 4)))) ∧ (((n = n) ∧ (((p + 1) = (p + 1)) ∧ ((0 ≤ (p + 1) ∧ (p + 1) ≤ 10000001) → (0 ≤ (p + 1) ∧ (p + 1) ≤ 9999991)))) ∧ ((((4 : Int) ≤ 4) ∧ (∀ e3 : E, ((0 ≤ e3.den ∧ e3.den < 4) → (((L (e3.den))) = ((L (e3.den))))))) ∧ ((n ≤ n) ∧ (∀ e2 : E, ((0 ≤ e2.den ∧ e2.den < n) → (((C (e2.den))) = ((C (e2.den)))))))))))))))) (by kernel_rfl) ?_
  intro h1 h2
  refine ⟨?_, ⟨⟨rfl, rfl⟩, ⟨Int.le_refl _, fun _ => fun _ => rfl⟩⟩, ?_⟩
  · intro c6
    omega
  · intro c7
    refine ⟨?_, ?_, rfl, ?_, ⟨Int.le_refl _, fun _ => fun _ => rfl⟩, Int.le_refl _, fun _ => fun _ => rfl⟩
    · omega
    · omega
    · refine ⟨rfl, rfl, ?_⟩
      intro c8
      omega
def c_one_4 (C : Int → Int) (n : Int) (p : Int) (L : Int → Int) : Cn Try.prog := ⟨_, _, _, _, _, one_4 C n p L⟩
def rn (C : Int → Int) (n p most : Int) : Int := pk C n (p + 1) (most + 1)
def gX (C : Int → Int) (n p i : Int) : Int := if pk C n p 6 = 1 then rpX C n (p + 2 + 2 * i) * 100 else rpX C n (p + 2 + 2 * i)
def gY (C : Int → Int) (n p i : Int) : Int := if pk C n p 6 = 0 then 2 * rpX C n (p + 2 + 2 * i) + 1 else if pk C n p 6 = 1 then rpY C n (p + 2 + 2 * i) * 37 else rpY C n (p + 2 + 2 * i)
def yP (C : Int → Int) (n p most : Int) : Int := p + 2 + 2 * rn C n p most
end Go.Proofs.Ytbldachljmhfjaa
