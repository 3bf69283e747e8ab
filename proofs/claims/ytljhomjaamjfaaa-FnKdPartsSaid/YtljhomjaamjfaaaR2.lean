/- Points drawn. -/
import Derived.Test.YtljhomjaamjfaaaR1
set_option linter.unusedSimpArgs false
set_option linter.unusedVariables false
set_option maxRecDepth 100000
namespace Go.Proofs.Ytljhomjaamjfaaa
open Go.Sym
def rpX (C : Int → Int) (n p : Int) : Int := pk C n p 9 - 2
def rpY (C : Int → Int) (n p : Int) : Int := pk C n (p + 1) 9 - 2
def oneL (k : Int) : Int := selL [1001, -1001, 1000, -1000] k
def apX (C : Int → Int) (n p : Int) : Int := if pk C n (p + 1 + 1) 16 = 0 then oneL (pk C n (p + 1 + 1 + 1) 4) else rpX C n p
def apY (C : Int → Int) (n p : Int) : Int := if pk C n (p + 1 + 1) 16 = 1 then oneL (pk C n (p + 1 + 1 + 1) 4) else rpY C n p
def apP (C : Int → Int) (n p : Int) : Int := if pk C n (p + 1 + 1) 16 = 0 then p + 1 + 1 + 1 + 1 else if pk C n (p + 1 + 1) 16 = 1 then p + 1 + 1 + 1 + 1 else p + 1 + 1 + 1
theorem apP_bd (C : Int → Int) (n p : Int) : p + 3 ≤ apP C n p ∧ apP C n p ≤ p + 4 := by unfold apP; split <;> (try split) <;> omega
theorem randomPoint (C : Int → Int) (n : Int) (p : Int) : RunsTo Try.prog 24 [(.ptr 0 2 (.lit 0) 0)] [some ⟨47, 2, true, (.lit [[(.sl 1 1 (.lit 0) (.v fun _ => n) 2000), (.int .i64 (.v fun _ => p) 0 9999900)]])⟩, some ⟨5, 1, false, (.sym (.v fun _ => n) fun e => [(.int .u8 (.v fun _ => (C (e.den))) 0 255)])⟩] (.agg [(.int .i64 (.v fun _ => rpX C n p) (-2) 6), (.int .i64 (.v fun _ => rpY C n p) (-2) 6)]) [some ⟨47, 2, true, (.lit [[(.sl 1 1 (.lit 0) (.v fun _ => n) 2000), (.int .i64 (.v fun _ => p + 1 + 1) 0 9999902)]])⟩, some ⟨5, 1, false, (.sym (.v fun _ => n) fun e => [(.int .u8 (.v fun _ => (C (e.den))) 0 255)])⟩] := by
  refine RunsTo.go env Try.func24 rfl Try.call24 rfl rfl (fun _ _ => (.call (c_pick_9 C n p) (.call (c_pick_9 C n (p + 1)) .ret))) (G := (True) → (((0 ≤ n ∧ n ≤ 2000) ∧ (0 ≤ p ∧ p ≤ 9999900)) ∧ (∀ e4 : E, ((0 ≤ e4.den ∧ e4.den < n) → (0 ≤ ((C (e4.den))) ∧ ((C (e4.den))) ≤ 255)))) → ((((n = n) ∧ (p = p)) ∧ ((n ≤ n) ∧ (∀ e1 : E, ((0 ≤ e1.den ∧ e1.den < n) → (((C (e1.den))) = ((C (e1.den)))))))) ∧ ((((n = n) ∧ (((p + 1) = (p + 1)) ∧ ((0 ≤ (p + 1) ∧ (p + 1) ≤ 10000001) → (0 ≤ (p + 1) ∧ (p + 1) ≤ 10000000)))) ∧ ((n ≤ n) ∧ (∀ e2 : E, ((0 ≤ e2.den ∧ e2.den < n) → (((C (e2.den))) = ((C (e2.den)))))))) ∧ (((((pk C n p 9) - 2) = (rpX C n p)) ∧ (((pk C n (p + 1) 9) - 2) = (rpY C n p))) ∧ (((n = n) ∧ ((((p + 1) + 1) = (p + 1 + 1)) ∧ ((0 ≤ ((p + 1) + 1) ∧ ((p + 1) + 1) ≤ 10000001) → (0 ≤ (p + 1 + 1) ∧ (p + 1 + 1) ≤ 9999902)))) ∧ ((n ≤ n) ∧ (∀ e3 : E, ((0 ≤ e3.den ∧ e3.den < n) → (((C (e3.den))) = ((C (e3.den)))))))))))) (by kernel_rfl) ?_
  intro h1 h2
  refine ⟨⟨⟨rfl, rfl⟩, ⟨Int.le_refl _, fun _ => fun _ => rfl⟩⟩, ?_, ?_, ?_, Int.le_refl _, fun _ => fun _ => rfl⟩
  · refine ⟨?_, Int.le_refl _, fun _ => fun _ => rfl⟩
    refine ⟨rfl, rfl, ?_⟩
    intro c5
    omega
  · refine ⟨?_, ?_⟩
    · rfl
    · rfl
  · refine ⟨rfl, ?_, ?_⟩
    · rfl
    · intro c6
      omega
def c_randomPoint (C : Int → Int) (n : Int) (p : Int) : Cn Try.prog := ⟨_, _, _, _, _, randomPoint C n p⟩
def rn (C : Int → Int) (n p most : Int) : Int := pk C n (p + 1) (most + 1)
def gX (C : Int → Int) (n p i : Int) : Int := if pk C n p 6 = 1 then rpX C n (p + 2 + 2 * i) * 100 else rpX C n (p + 2 + 2 * i)
def gY (C : Int → Int) (n p i : Int) : Int := if pk C n p 6 = 0 then 2 * rpX C n (p + 2 + 2 * i) + 1 else if pk C n p 6 = 1 then rpY C n (p + 2 + 2 * i) * 37 else rpY C n (p + 2 + 2 * i)
theorem randomPoints (C : Int → Int) (n : Int) (p : Int) (most : Int) : RunsTo Try.prog 22 [(.ptr 0 2 (.lit 0) 0), (.int .i64 (.v fun _ => most) 0 60)] [some ⟨47, 2, true, (.lit [[(.sl 1 1 (.lit 0) (.v fun _ => n) 2000), (.int .i64 (.v fun _ => p) 0 9999000)]])⟩, some ⟨5, 1, false, (.sym (.v fun _ => n) fun e => [(.int .u8 (.v fun _ => (C (e.den))) 0 255)])⟩] (.sl 2 2 (.lit 0) (.v fun _ => rn C n p most) 64) [some ⟨47, 2, true, (.lit [[(.sl 1 1 (.lit 0) (.v fun _ => n) 2000), (.int .i64 (.v fun _ => p + 2 + 2 * rn C n p most) 0 9999902)]])⟩, some ⟨5, 1, false, (.sym (.v fun _ => n) fun e => [(.int .u8 (.v fun _ => (C (e.den))) 0 255)])⟩, some ⟨29, 2, true, (.sym (.v fun _ => rn C n p most) fun e => [(.int .i64 (.v fun _ => gX C n p e.den) (-200) 600), (.int .i64 (.v fun _ => gY C n p e.den) (-111) 481)])⟩] := by
  refine RunsTo.go env Try.func22 rfl Try.call22 rfl rfl (fun _ _ => (.callF (c_pick_6 C n p) (.callF (c_pick C n (p + 1) (most + 1)) (.loop [] [0, 1, 2] (Int) (fun x3 => ⟨spl 43 0 [(0, (.ptr 0 2 (.lit 0) 0)), (4, (.raw (.slice none 0 0))), (5, (.sl 2 2 (.lit 0) (.v fun _ => x3) 64)), (6, (.int .i64 (.v fun _ => pk C n p 6) 0 5)), (7, (.int .i64 (.v fun _ => rn C n p most - x3) 0 60))], [some ⟨47, 2, true, (.lit [[(.sl 1 1 (.lit 0) (.v fun _ => n) 2000), (.int .i64 (.v fun _ => p + 2 + 2 * x3) 0 9999200)]])⟩, some ⟨5, 1, false, (.sym (.v fun _ => n) fun e => [(.int .u8 (.v fun _ => ((C (e.den)))) 0 255)])⟩, some ⟨29, 2, true, (.sym (.v fun _ => x3) fun e => [(.int .i64 (.v fun _ => gX C n p (e.den)) (-200) 600), (.int .i64 (.v fun _ => gY C n p (e.den)) (-111) 481)])⟩], 2⟩) (fun x3 => 0 ≤ x3 ∧ x3 ≤ rn C n p most) (fun x3 => (rn C n p most - x3).toNat) fun x3 => (.ite (.callF (c_randomPoint C n (p + 2 + 2 * x3)) (.ite (.ite (.need (.next [0, 1, 2])) (.need (.next [0, 1, 2]))) (.ite (.need (.next [0, 1, 2])) (.need (.next [0, 1, 2]))))) (.out .ret)))))) (G := (0 ≤ most ∧ most ≤ 60) → (((0 ≤ n ∧ n ≤ 2000) ∧ (0 ≤ p ∧ p ≤ 9999000)) ∧ (∀ e25 : E, ((0 ≤ e25.den ∧ e25.den < n) → (0 ≤ ((C (e25.den))) ∧ ((C (e25.den))) ≤ 255)))) → ((((n = n) ∧ (p = p)) ∧ ((n ≤ n) ∧ (∀ e1 : E, ((0 ≤ e1.den ∧ e1.den < n) → (((C (e1.den))) = ((C (e1.den)))))))) ∧ ((0 ≤ (pk C n p 6) ∧ (pk C n p 6) ≤ 5) → (((most + 1) = (most + 1)) ∧ ((((n = n) ∧ (((p + 1) = (p + 1)) ∧ ((0 ≤ (p + 1) ∧ (p + 1) ≤ 10000001) → (0 ≤ (p + 1) ∧ (p + 1) ≤ 10000000)))) ∧ ((n ≤ n) ∧ (∀ e2 : E, ((0 ≤ e2.den ∧ e2.den < n) → (((C (e2.den))) = ((C (e2.den)))))))) ∧ (((-9223372036854775808) ≤ (pk C n (p + 1) (most + 1)) ∧ (pk C n (p + 1) (most + 1)) ≤ 9223372036854775807) → ((∃ y4 : Int, ((0 ≤ y4 ∧ y4 ≤ rn C n p most) ∧ (((((.slice none 0 0) : Value) = (.slice none 0 0)) ∧ (((0 : Int) = y4) ∧ (((pk C n p 6) = (pk C n p 6)) ∧ (((pk C n (p + 1) (most + 1)) = (rn C n p most - y4)) ∧ (((-9223372036854775808) ≤ (pk C n (p + 1) (most + 1)) ∧ (pk C n (p + 1) (most + 1)) ≤ 9223372036854775807) → (0 ≤ (rn C n p most - y4) ∧ (rn C n p most - y4) ≤ 60)))))) ∧ (((n = n) ∧ ((((p + 1) + 1) = (p + 2 + 2 * y4)) ∧ ((0 ≤ ((p + 1) + 1) ∧ ((p + 1) + 1) ≤ 10000001) → (0 ≤ (p + 2 + 2 * y4) ∧ (p + 2 + 2 * y4) ≤ 9999200)))) ∧ (((n ≤ n) ∧ (∀ e5 : E, ((0 ≤ e5.den ∧ e5.den < n) → (((C (e5.den))) = ((C (e5.den))))))) ∧ (y4 = 0)))))) ∧ (∀ x3 : Int, ((0 ≤ x3 ∧ x3 ≤ rn C n p most) → (((0 < (rn C n p most - x3)) → ((((n = n) ∧ ((p + 2 + 2 * x3) = (p + 2 + 2 * x3))) ∧ ((n ≤ n) ∧ (∀ e6 : E, ((0 ≤ e6.den ∧ e6.den < n) → (((C (e6.den))) = ((C (e6.den)))))))) ∧ ((((-2) ≤ (rpX C n (p + 2 + 2 * x3)) ∧ (rpX C n (p + 2 + 2 * x3)) ≤ 6) ∧ ((-2) ≤ (rpY C n (p + 2 + 2 * x3)) ∧ (rpY C n (p + 2 + 2 * x3)) ≤ 6)) → ((((pk C n p 6) = 0) → ((((pk C n p 6) = 1) → ((x3 = x3) ∧ (∃ y7 : Int, ((0 ≤ y7 ∧ y7 ≤ rn C n p most) ∧ ((((((.slice none 0 0) : Value) = (.slice none 0 0)) ∧ ((((x3 + 1) = y7) ∧ (((x3 + 1) ≤ 65) → (y7 ≤ 64))) ∧ (((pk C n p 6) = (pk C n p 6)) ∧ ((((rn C n p most - x3) - 1) = (rn C n p most - y7)) ∧ (((-1) ≤ ((rn C n p most - x3) - 1) ∧ ((rn C n p most - x3) - 1) ≤ 59) → (0 ≤ (rn C n p most - y7) ∧ (rn C n p most - y7) ≤ 60)))))) ∧ (((n = n) ∧ ((((p + 2 + 2 * x3) + 1 + 1) = (p + 2 + 2 * y7)) ∧ ((0 ≤ ((p + 2 + 2 * x3) + 1 + 1) ∧ ((p + 2 + 2 * x3) + 1 + 1) ≤ 9999902) → (0 ≤ (p + 2 + 2 * y7) ∧ (p + 2 + 2 * y7) ≤ 9999200)))) ∧ (((n ≤ n) ∧ (∀ e10 : E, ((0 ≤ e10.den ∧ e10.den < n) → (((C (e10.den))) = ((C (e10.den))))))) ∧ (((0 : Int) ≤ x3 ∧ y7 = x3 + 1) ∧ (((x3 ≤ x3) ∧ (∀ e9 : E, ((0 ≤ e9.den ∧ e9.den < x3) → (((gX C n p (e9.den)) = (gX C n p (e9.den))) ∧ ((gY C n p (e9.den)) = (gY C n p (e9.den))))))) ∧ (∀ e8 : E, ((e8.den = x3) → ((((rpX C n (p + 2 + 2 * x3)) * 100) = (gX C n p (e8.den))) ∧ ((((2 * (rpX C n (p + 2 + 2 * x3))) + 1) * 37) = (gY C n p (e8.den))))))))))) ∧ ((rn C n p most - y7).toNat < (rn C n p most - x3).toNat)))))) ∧ (((pk C n p 6) ≠ 1) → ((x3 = x3) ∧ (∃ y11 : Int, ((0 ≤ y11 ∧ y11 ≤ rn C n p most) ∧ ((((((.slice none 0 0) : Value) = (.slice none 0 0)) ∧ ((((x3 + 1) = y11) ∧ (((x3 + 1) ≤ 65) → (y11 ≤ 64))) ∧ (((pk C n p 6) = (pk C n p 6)) ∧ ((((rn C n p most - x3) - 1) = (rn C n p most - y11)) ∧ (((-1) ≤ ((rn C n p most - x3) - 1) ∧ ((rn C n p most - x3) - 1) ≤ 59) → (0 ≤ (rn C n p most - y11) ∧ (rn C n p most - y11) ≤ 60)))))) ∧ (((n = n) ∧ ((((p + 2 + 2 * x3) + 1 + 1) = (p + 2 + 2 * y11)) ∧ ((0 ≤ ((p + 2 + 2 * x3) + 1 + 1) ∧ ((p + 2 + 2 * x3) + 1 + 1) ≤ 9999902) → (0 ≤ (p + 2 + 2 * y11) ∧ (p + 2 + 2 * y11) ≤ 9999200)))) ∧ (((n ≤ n) ∧ (∀ e14 : E, ((0 ≤ e14.den ∧ e14.den < n) → (((C (e14.den))) = ((C (e14.den))))))) ∧ (((0 : Int) ≤ x3 ∧ y11 = x3 + 1) ∧ (((x3 ≤ x3) ∧ (∀ e13 : E, ((0 ≤ e13.den ∧ e13.den < x3) → (((gX C n p (e13.den)) = (gX C n p (e13.den))) ∧ ((gY C n p (e13.den)) = (gY C n p (e13.den))))))) ∧ (∀ e12 : E, ((e12.den = x3) → (((rpX C n (p + 2 + 2 * x3)) = (gX C n p (e12.den))) ∧ (((2 * (rpX C n (p + 2 + 2 * x3))) + 1) = (gY C n p (e12.den))))))))))) ∧ ((rn C n p most - y11).toNat < (rn C n p most - x3).toNat)))))))) ∧ (((pk C n p 6) ≠ 0) → ((((pk C n p 6) = 1) → ((x3 = x3) ∧ (∃ y15 : Int, ((0 ≤ y15 ∧ y15 ≤ rn C n p most) ∧ ((((((.slice none 0 0) : Value) = (.slice none 0 0)) ∧ ((((x3 + 1) = y15) ∧ (((x3 + 1) ≤ 65) → (y15 ≤ 64))) ∧ (((pk C n p 6) = (pk C n p 6)) ∧ ((((rn C n p most - x3) - 1) = (rn C n p most - y15)) ∧ (((-1) ≤ ((rn C n p most - x3) - 1) ∧ ((rn C n p most - x3) - 1) ≤ 59) → (0 ≤ (rn C n p most - y15) ∧ (rn C n p most - y15) ≤ 60)))))) ∧ (((n = n) ∧ ((((p + 2 + 2 * x3) + 1 + 1) = (p + 2 + 2 * y15)) ∧ ((0 ≤ ((p + 2 + 2 * x3) + 1 + 1) ∧ ((p + 2 + 2 * x3) + 1 + 1) ≤ 9999902) → (0 ≤ (p + 2 + 2 * y15) ∧ (p + 2 + 2 * y15) ≤ 9999200)))) ∧ (((n ≤ n) ∧ (∀ e18 : E, ((0 ≤ e18.den ∧ e18.den < n) → (((C (e18.den))) = ((C (e18.den))))))) ∧ (((0 : Int) ≤ x3 ∧ y15 = x3 + 1) ∧ (((x3 ≤ x3) ∧ (∀ e17 : E, ((0 ≤ e17.den ∧ e17.den < x3) → (((gX C n p (e17.den)) = (gX C n p (e17.den))) ∧ ((gY C n p (e17.den)) = (gY C n p (e17.den))))))) ∧ (∀ e16 : E, ((e16.den = x3) → ((((rpX C n (p + 2 + 2 * x3)) * 100) = (gX C n p (e16.den))) ∧ (((rpY C n (p + 2 + 2 * x3)) * 37) = (gY C n p (e16.den))))))))))) ∧ ((rn C n p most - y15).toNat < (rn C n p most - x3).toNat)))))) ∧ (((pk C n p 6) ≠ 1) → ((x3 = x3) ∧ (∃ y19 : Int, ((0 ≤ y19 ∧ y19 ≤ rn C n p most) ∧ ((((((.slice none 0 0) : Value) = (.slice none 0 0)) ∧ ((((x3 + 1) = y19) ∧ (((x3 + 1) ≤ 65) → (y19 ≤ 64))) ∧ (((pk C n p 6) = (pk C n p 6)) ∧ ((((rn C n p most - x3) - 1) = (rn C n p most - y19)) ∧ (((-1) ≤ ((rn C n p most - x3) - 1) ∧ ((rn C n p most - x3) - 1) ≤ 59) → (0 ≤ (rn C n p most - y19) ∧ (rn C n p most - y19) ≤ 60)))))) ∧ (((n = n) ∧ ((((p + 2 + 2 * x3) + 1 + 1) = (p + 2 + 2 * y19)) ∧ ((0 ≤ ((p + 2 + 2 * x3) + 1 + 1) ∧ ((p + 2 + 2 * x3) + 1 + 1) ≤ 9999902) → (0 ≤ (p + 2 + 2 * y19) ∧ (p + 2 + 2 * y19) ≤ 9999200)))) ∧ (((n ≤ n) ∧ (∀ e22 : E, ((0 ≤ e22.den ∧ e22.den < n) → (((C (e22.den))) = ((C (e22.den))))))) ∧ (((0 : Int) ≤ x3 ∧ y19 = x3 + 1) ∧ (((x3 ≤ x3) ∧ (∀ e21 : E, ((0 ≤ e21.den ∧ e21.den < x3) → (((gX C n p (e21.den)) = (gX C n p (e21.den))) ∧ ((gY C n p (e21.den)) = (gY C n p (e21.den))))))) ∧ (∀ e20 : E, ((e20.den = x3) → (((rpX C n (p + 2 + 2 * x3)) = (gX C n p (e20.den))) ∧ ((rpY C n (p + 2 + 2 * x3)) = (gY C n p (e20.den))))))))))) ∧ ((rn C n p most - y19).toNat < (rn C n p most - x3).toNat)))))))))))) ∧ (((rn C n p most - x3) ≤ 0) → ((x3 = (rn C n p most)) ∧ (((n = n) ∧ ((p + 2 + 2 * x3) = (p + 2 + 2 * rn C n p most))) ∧ (((n ≤ n) ∧ (∀ e24 : E, ((0 ≤ e24.den ∧ e24.den < n) → (((C (e24.den))) = ((C (e24.den))))))) ∧ (((rn C n p most) ≤ x3) ∧ (∀ e23 : E, ((0 ≤ e23.den ∧ e23.den < (rn C n p most)) → (((gX C n p (e23.den)) = (gX C n p e23.den)) ∧ ((gY C n p (e23.den)) = (gY C n p e23.den)))))))))))))))))))) (by kernel_rfl) ?_
  intro h1 h2
  have hC : ∀ i, 0 ≤ i → i < n → 0 ≤ C i ∧ C i ≤ 255 := fun i a b => h2.2 (.v fun _ => i) ⟨a, b⟩
  have hb := pk_bd (p := p + 1) (k := most + 1) hC (by omega) (by omega) (by omega) (by omega)
  have e0 : pk C n (p + 1) (most + 1) = rn C n p most := rfl
  refine ⟨⟨⟨rfl, rfl⟩, ⟨Int.le_refl _, fun _ => fun _ => rfl⟩⟩, ?_⟩
  intro c26
  refine ⟨rfl, ?_, ?_⟩
  · refine ⟨?_, Int.le_refl _, fun _ => fun _ => rfl⟩
    refine ⟨rfl, rfl, ?_⟩
    intro c27
    omega
  · intro c28
    refine ⟨?_, ?_⟩
    · refine ⟨0, ?_⟩
      try dsimp only
      refine ⟨?_, ?_, ?_, ⟨Int.le_refl _, fun _ => fun _ => rfl⟩, ?_⟩
      · omega
      · refine ⟨rfl, ?_, rfl, ?_, ?_⟩
        · rfl
        · omega
        · intro c29
          omega
      · refine ⟨rfl, ?_, ?_⟩
        · omega
        · intro c30
          omega
      · rfl
    · intro j
      intro I1
      refine ⟨?_, ?_⟩
      · intro c31
        refine ⟨⟨⟨rfl, rfl⟩, ⟨Int.le_refl _, fun _ => fun _ => rfl⟩⟩, ?_⟩
        intro c32
        refine ⟨?_, ?_⟩
        · intro c33
          refine ⟨?_, ?_⟩
          · intro c34
            refine ⟨?_, ?_⟩
            · rfl
            · refine ⟨j + 1, ?_⟩
              try dsimp only
              refine ⟨?_, ?_, ?_⟩
              · omega
              · refine ⟨?_, ?_, ⟨Int.le_refl _, fun _ => fun _ => rfl⟩, ?_, ⟨Int.le_refl _, fun _ => fun _ => ⟨rfl, rfl⟩⟩, ?_⟩
                · refine ⟨rfl, ?_, rfl, ?_, ?_⟩
                  · refine ⟨?_, ?_⟩
                    · rfl
                    · intro c35
                      omega
                  · omega
                  · intro c36
                    omega
                · refine ⟨rfl, ?_, ?_⟩
                  · omega
                  · intro c37
                    omega
                · omega
                · intro e8
                  intro c38
                  refine ⟨?_, ?_⟩
                  · omega
                  · omega
              · omega
          · intro c39
            refine ⟨?_, ?_⟩
            · rfl
            · refine ⟨j + 1, ?_⟩
              try dsimp only
              refine ⟨?_, ?_, ?_⟩
              · omega
              · refine ⟨?_, ?_, ⟨Int.le_refl _, fun _ => fun _ => rfl⟩, ?_, ⟨Int.le_refl _, fun _ => fun _ => ⟨rfl, rfl⟩⟩, ?_⟩
                · refine ⟨rfl, ?_, rfl, ?_, ?_⟩
                  · refine ⟨?_, ?_⟩
                    · rfl
                    · intro c40
                      omega
                  · omega
                  · intro c41
                    omega
                · refine ⟨rfl, ?_, ?_⟩
                  · omega
                  · intro c42
                    omega
                · omega
                · intro e12
                  intro c43
                  refine ⟨?_, ?_⟩
                  · simp [gX, gY, *]; done
                  · simp [gX, gY, *]; done
              · omega
        · intro c44
          refine ⟨?_, ?_⟩
          · intro c45
            refine ⟨?_, ?_⟩
            · rfl
            · refine ⟨j + 1, ?_⟩
              try dsimp only
              refine ⟨?_, ?_, ?_⟩
              · omega
              · refine ⟨?_, ?_, ⟨Int.le_refl _, fun _ => fun _ => rfl⟩, ?_, ⟨Int.le_refl _, fun _ => fun _ => ⟨rfl, rfl⟩⟩, ?_⟩
                · refine ⟨rfl, ?_, rfl, ?_, ?_⟩
                  · refine ⟨?_, ?_⟩
                    · rfl
                    · intro c46
                      omega
                  · omega
                  · intro c47
                    omega
                · refine ⟨rfl, ?_, ?_⟩
                  · omega
                  · intro c48
                    omega
                · omega
                · intro e16
                  intro c49
                  refine ⟨?_, ?_⟩
                  · simp [gX, gY, *]; done
                  · simp [gX, gY, *]; done
              · omega
          · intro c50
            refine ⟨?_, ?_⟩
            · rfl
            · refine ⟨j + 1, ?_⟩
              try dsimp only
              refine ⟨?_, ?_, ?_⟩
              · omega
              · refine ⟨?_, ?_, ⟨Int.le_refl _, fun _ => fun _ => rfl⟩, ?_, ⟨Int.le_refl _, fun _ => fun _ => ⟨rfl, rfl⟩⟩, ?_⟩
                · refine ⟨rfl, ?_, rfl, ?_, ?_⟩
                  · refine ⟨?_, ?_⟩
                    · rfl
                    · intro c51
                      omega
                  · omega
                  · intro c52
                    omega
                · refine ⟨rfl, ?_, ?_⟩
                  · omega
                  · intro c53
                    omega
                · omega
                · intro e20
                  intro c54
                  refine ⟨?_, ?_⟩
                  · simp [gX, gY, *]; done
                  · simp [gX, gY, *]; done
              · omega
      · intro c55
        refine ⟨?_, ?_, ⟨Int.le_refl _, fun _ => fun _ => rfl⟩, ?_, fun _ => fun _ => ⟨rfl, rfl⟩⟩
        · omega
        · refine ⟨rfl, ?_⟩
          omega
        · omega
def c_randomPoints (C : Int → Int) (n : Int) (p : Int) (most : Int) : Cn Try.prog := ⟨_, _, _, _, _, randomPoints C n p most⟩
def yP (C : Int → Int) (n p most : Int) : Int := p + 2 + 2 * rn C n p most
end Go.Proofs.Ytljhomjaamjfaaa
