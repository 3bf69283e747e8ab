/- Lists of points drawn. -/
import Derived.Test.YtljhomjaamjfaaaK2
set_option linter.unusedSimpArgs false
set_option linter.unusedVariables false
set_option maxRecDepth 100000
namespace Go.Proofs.Ytljhomjaamjfaaa
open Go.Sym
def anS (C : Int → Int) (n p most : Int) : Int := pk C n (p + 2 + 2 * rn C n p most) 20
def anN (C : Int → Int) (n p most : Int) : Int := if rn C n p most ≤ 0 then 0 else if anS C n p most = 0 then rn C n p most else if anS C n p most = 1 then 21 else rn C n p most
def anX (C : Int → Int) (n p most i : Int) : Int := if 0 < rn C n p most ∧ anS C n p most = 0 ∧ i = pk C n (p + 2 + 2 * rn C n p most + 1) (rn C n p most) then 1001 else if i < rn C n p most then gX C n p i else rpX C n (p + 2 + 2 * rn C n p most + 1 + 2 * (i - rn C n p most))
def anY (C : Int → Int) (n p most i : Int) : Int := if 0 < rn C n p most ∧ anS C n p most = 0 ∧ i = pk C n (p + 2 + 2 * rn C n p most + 1) (rn C n p most) then 0 else if i < rn C n p most then gY C n p i else rpY C n (p + 2 + 2 * rn C n p most + 1 + 2 * (i - rn C n p most))
def anP (C : Int → Int) (n p most : Int) : Int := if rn C n p most ≤ 0 then p + 2 + 2 * rn C n p most else if anS C n p most = 0 then p + 2 + 2 * rn C n p most + 1 + 1 else if anS C n p most = 1 then p + 2 + 2 * rn C n p most + 1 + 2 * (21 - rn C n p most) else p + 2 + 2 * rn C n p most + 1
theorem anyPoints (C : Int → Int) (n : Int) (p : Int) (most : Int) : RunsTo Try.prog 8 [(.ptr 0 2 (.lit 0) 0), (.int .i64 (.v fun _ => most) 0 20)] [some ⟨47, 2, true, (.lit [[(.sl 1 1 (.lit 0) (.v fun _ => n) 2000), (.int .i64 (.v fun _ => p) 0 9998000)]])⟩, some ⟨5, 1, false, (.sym (.v fun _ => n) fun e => [(.int .u8 (.v fun _ => (C (e.den))) 0 255)])⟩] (.sl 2 2 (.lit 0) (.v fun _ => anN C n p most) 64) [some ⟨47, 2, true, (.lit [[(.sl 1 1 (.lit 0) (.v fun _ => n) 2000), (.int .i64 (.v fun _ => anP C n p most) 0 9998200)]])⟩, some ⟨5, 1, false, (.sym (.v fun _ => n) fun e => [(.int .u8 (.v fun _ => (C (e.den))) 0 255)])⟩, some ⟨29, 2, true, (.sym (.v fun _ => anN C n p most) fun e => [(.int .i64 (.v fun _ => anX C n p most e.den) (-200) 1001), (.int .i64 (.v fun _ => anY C n p most e.den) (-111) 481)])⟩] := by
  refine RunsTo.go env Try.func8 rfl Try.call8 rfl rfl (fun _ _ => (.callF (c_randomPoints C n p most) (.ite (.callF (c_pick_20 C n (p + 2 + 2 * rn C n p most)) (.ite (.callF (c_pick C n ((p + 2 + 2 * rn C n p most) + 1) (rn C n p most)) (.need (.need .ret))) (.ite (.loop [] [0, 1, 2] (Int) (fun x7 => ⟨spl 34 0 [(0, (.ptr 0 2 (.lit 0) 0)), (4, (.raw (.slice none 0 0))), (5, (.sl 2 2 (.lit 0) (.v fun _ => x7) 64))], [some ⟨47, 2, true, (.lit [[(.sl 1 1 (.lit 0) (.v fun _ => n) 2000), (.int .i64 (.v fun _ => p + 2 + 2 * rn C n p most + 1 + 2 * (x7 - rn C n p most)) 0 9999200)]])⟩, some ⟨5, 1, false, (.sym (.v fun _ => n) fun e => [(.int .u8 (.v fun _ => ((C (e.den)))) 0 255)])⟩, some ⟨29, 2, true, (.sym (.v fun _ => x7) fun e => [(.int .i64 (.v fun _ => anX C n p most (e.den)) (-200) 1001), (.int .i64 (.v fun _ => anY C n p most (e.den)) (-111) 481)])⟩], 2⟩) (fun x7 => rn C n p most ≤ x7 ∧ x7 ≤ 21) (fun x7 => (21 - x7).toNat) fun x7 => (.ite (.callF (c_randomPoint C n (p + 2 + 2 * rn C n p most + 1 + 2 * (x7 - rn C n p most))) (.need (.next [0, 1, 2]))) (.out .ret))) .ret))) .ret))) (G := (0 ≤ most ∧ most ≤ 20) → (((0 ≤ n ∧ n ≤ 2000) ∧ (0 ≤ p ∧ p ≤ 9998000)) ∧ (∀ e22 : E, ((0 ≤ e22.den ∧ e22.den < n) → (0 ≤ ((C (e22.den))) ∧ ((C (e22.den))) ≤ 255)))) → ((most = most) ∧ ((((n = n) ∧ (p = p)) ∧ ((n ≤ n) ∧ (∀ e1 : E, ((0 ≤ e1.den ∧ e1.den < n) → (((C (e1.den))) = ((C (e1.den)))))))) ∧ ((0 ≤ (rn C n p most) ∧ (rn C n p most) ≤ 64) → (((0 < (rn C n p most)) → ((((n = n) ∧ ((p + 2 + 2 * rn C n p most) = (p + 2 + 2 * rn C n p most))) ∧ ((n ≤ n) ∧ (∀ e2 : E, ((0 ≤ e2.den ∧ e2.den < n) → (((C (e2.den))) = ((C (e2.den)))))))) ∧ ((0 ≤ (pk C n (p + 2 + 2 * rn C n p most) 20) ∧ (pk C n (p + 2 + 2 * rn C n p most) 20) ≤ 19) → ((((pk C n (p + 2 + 2 * rn C n p most) 20) = 0) → (((rn C n p most) = (rn C n p most)) ∧ ((((n = n) ∧ ((((p + 2 + 2 * rn C n p most) + 1) = ((p + 2 + 2 * rn C n p most) + 1)) ∧ ((0 ≤ ((p + 2 + 2 * rn C n p most) + 1) ∧ ((p + 2 + 2 * rn C n p most) + 1) ≤ 10000001) → (0 ≤ ((p + 2 + 2 * rn C n p most) + 1) ∧ ((p + 2 + 2 * rn C n p most) + 1) ≤ 10000000)))) ∧ ((n ≤ n) ∧ (∀ e3 : E, ((0 ≤ e3.den ∧ e3.den < n) → (((C (e3.den))) = ((C (e3.den)))))))) ∧ (((-9223372036854775808) ≤ (pk C n ((p + 2 + 2 * rn C n p most) + 1) (rn C n p most)) ∧ (pk C n ((p + 2 + 2 * rn C n p most) + 1) (rn C n p most)) ≤ 9223372036854775807) → ((((0 ≤ (pk C n ((p + 2 + 2 * rn C n p most) + 1) (rn C n p most))) ∧ ((pk C n ((p + 2 + 2 * rn C n p most) + 1) (rn C n p most)) < (rn C n p most)))) ∧ (((pk C n ((p + 2 + 2 * rn C n p most) + 1) (rn C n p most)) < (rn C n p most)) ∧ (((rn C n p most) = (anN C n p most)) ∧ (((n = n) ∧ (((((p + 2 + 2 * rn C n p most) + 1) + 1) = (anP C n p most)) ∧ ((0 ≤ (((p + 2 + 2 * rn C n p most) + 1) + 1) ∧ (((p + 2 + 2 * rn C n p most) + 1) + 1) ≤ 10000001) → (0 ≤ (anP C n p most) ∧ (anP C n p most) ≤ 9998200)))) ∧ (((n ≤ n) ∧ (∀ e6 : E, ((0 ≤ e6.den ∧ e6.den < n) → (((C (e6.den))) = ((C (e6.den))))))) ∧ (((anN C n p most) = (rn C n p most)) ∧ ((∀ e5 : E, ((0 ≤ e5.den ∧ e5.den < (rn C n p most) ∧ e5.den ≠ (pk C n ((p + 2 + 2 * rn C n p most) + 1) (rn C n p most))) → (((gX C n p (e5.den)) = (anX C n p most e5.den)) ∧ ((gY C n p (e5.den)) = (anY C n p most e5.den))))) ∧ (∀ e4 : E, ((e4.den.toNat = ((pk C n ((p + 2 + 2 * rn C n p most) + 1) (rn C n p most)) : Int).toNat ∧ 0 ≤ e4.den) → (((1001 : Int) = (anX C n p most e4.den)) ∧ ((0 : Int) = (anY C n p most e4.den)))))))))))))))) ∧ (((pk C n (p + 2 + 2 * rn C n p most) 20) ≠ 0) → ((((pk C n (p + 2 + 2 * rn C n p most) 20) = 1) → ((∃ y8 : Int, ((rn C n p most ≤ y8 ∧ y8 ≤ 21) ∧ (((((.slice none 0 0) : Value) = (.slice none 0 0)) ∧ ((rn C n p most) = y8)) ∧ (((n = n) ∧ ((((p + 2 + 2 * rn C n p most) + 1) = (p + 2 + 2 * rn C n p most + 1 + 2 * (y8 - rn C n p most))) ∧ ((0 ≤ ((p + 2 + 2 * rn C n p most) + 1) ∧ ((p + 2 + 2 * rn C n p most) + 1) ≤ 10000001) → (0 ≤ (p + 2 + 2 * rn C n p most + 1 + 2 * (y8 - rn C n p most)) ∧ (p + 2 + 2 * rn C n p most + 1 + 2 * (y8 - rn C n p most)) ≤ 9999200)))) ∧ (((n ≤ n) ∧ (∀ e10 : E, ((0 ≤ e10.den ∧ e10.den < n) → (((C (e10.den))) = ((C (e10.den))))))) ∧ ((y8 ≤ (rn C n p most)) ∧ (∀ e9 : E, ((0 ≤ e9.den ∧ e9.den < y8) → (((gX C n p (e9.den)) = (anX C n p most (e9.den))) ∧ ((gY C n p (e9.den)) = (anY C n p most (e9.den)))))))))))) ∧ (∀ x7 : Int, ((rn C n p most ≤ x7 ∧ x7 ≤ 21) → (((x7 < 21) → ((((n = n) ∧ ((p + 2 + 2 * rn C n p most + 1 + 2 * (x7 - rn C n p most)) = (p + 2 + 2 * rn C n p most + 1 + 2 * (x7 - rn C n p most)))) ∧ ((n ≤ n) ∧ (∀ e11 : E, ((0 ≤ e11.den ∧ e11.den < n) → (((C (e11.den))) = ((C (e11.den)))))))) ∧ ((((-2) ≤ (rpX C n (p + 2 + 2 * rn C n p most + 1 + 2 * (x7 - rn C n p most))) ∧ (rpX C n (p + 2 + 2 * rn C n p most + 1 + 2 * (x7 - rn C n p most))) ≤ 6) ∧ ((-2) ≤ (rpY C n (p + 2 + 2 * rn C n p most + 1 + 2 * (x7 - rn C n p most))) ∧ (rpY C n (p + 2 + 2 * rn C n p most + 1 + 2 * (x7 - rn C n p most))) ≤ 6)) → ((x7 = x7) ∧ (∃ y12 : Int, ((rn C n p most ≤ y12 ∧ y12 ≤ 21) ∧ ((((((.slice none 0 0) : Value) = (.slice none 0 0)) ∧ (((x7 + 1) = y12) ∧ (((x7 + 1) ≤ 65) → (y12 ≤ 64)))) ∧ (((n = n) ∧ ((((p + 2 + 2 * rn C n p most + 1 + 2 * (x7 - rn C n p most)) + 1 + 1) = (p + 2 + 2 * rn C n p most + 1 + 2 * (y12 - rn C n p most))) ∧ ((0 ≤ ((p + 2 + 2 * rn C n p most + 1 + 2 * (x7 - rn C n p most)) + 1 + 1) ∧ ((p + 2 + 2 * rn C n p most + 1 + 2 * (x7 - rn C n p most)) + 1 + 1) ≤ 9999902) → (0 ≤ (p + 2 + 2 * rn C n p most + 1 + 2 * (y12 - rn C n p most)) ∧ (p + 2 + 2 * rn C n p most + 1 + 2 * (y12 - rn C n p most)) ≤ 9999200)))) ∧ (((n ≤ n) ∧ (∀ e15 : E, ((0 ≤ e15.den ∧ e15.den < n) → (((C (e15.den))) = ((C (e15.den))))))) ∧ (((0 : Int) ≤ x7 ∧ y12 = x7 + 1) ∧ (((x7 ≤ x7) ∧ (∀ e14 : E, ((0 ≤ e14.den ∧ e14.den < x7) → (((anX C n p most (e14.den)) = (anX C n p most (e14.den))) ∧ ((anY C n p most (e14.den)) = (anY C n p most (e14.den))))))) ∧ (∀ e13 : E, ((e13.den = x7) → (((rpX C n (p + 2 + 2 * rn C n p most + 1 + 2 * (x7 - rn C n p most))) = (anX C n p most (e13.den))) ∧ ((rpY C n (p + 2 + 2 * rn C n p most + 1 + 2 * (x7 - rn C n p most))) = (anY C n p most (e13.den))))))))))) ∧ ((21 - y12).toNat < (21 - x7).toNat)))))))) ∧ ((21 ≤ x7) → ((x7 = (anN C n p most)) ∧ (((n = n) ∧ (((p + 2 + 2 * rn C n p most + 1 + 2 * (x7 - rn C n p most)) = (anP C n p most)) ∧ ((0 ≤ (p + 2 + 2 * rn C n p most + 1 + 2 * (x7 - rn C n p most)) ∧ (p + 2 + 2 * rn C n p most + 1 + 2 * (x7 - rn C n p most)) ≤ 9999200) → (0 ≤ (anP C n p most) ∧ (anP C n p most) ≤ 9998200)))) ∧ (((n ≤ n) ∧ (∀ e17 : E, ((0 ≤ e17.den ∧ e17.den < n) → (((C (e17.den))) = ((C (e17.den))))))) ∧ (((anN C n p most) ≤ x7) ∧ (∀ e16 : E, ((0 ≤ e16.den ∧ e16.den < (anN C n p most)) → (((anX C n p most (e16.den)) = (anX C n p most e16.den)) ∧ ((anY C n p most (e16.den)) = (anY C n p most e16.den))))))))))))))) ∧ (((pk C n (p + 2 + 2 * rn C n p most) 20) ≠ 1) → (((rn C n p most) = (anN C n p most)) ∧ (((n = n) ∧ ((((p + 2 + 2 * rn C n p most) + 1) = (anP C n p most)) ∧ ((0 ≤ ((p + 2 + 2 * rn C n p most) + 1) ∧ ((p + 2 + 2 * rn C n p most) + 1) ≤ 10000001) → (0 ≤ (anP C n p most) ∧ (anP C n p most) ≤ 9998200)))) ∧ (((n ≤ n) ∧ (∀ e19 : E, ((0 ≤ e19.den ∧ e19.den < n) → (((C (e19.den))) = ((C (e19.den))))))) ∧ (((anN C n p most) ≤ (rn C n p most)) ∧ (∀ e18 : E, ((0 ≤ e18.den ∧ e18.den < (anN C n p most)) → (((gX C n p (e18.den)) = (anX C n p most e18.den)) ∧ ((gY C n p (e18.den)) = (anY C n p most e18.den)))))))))))))))) ∧ (((rn C n p most) ≤ 0) → (((rn C n p most) = (anN C n p most)) ∧ (((n = n) ∧ (((p + 2 + 2 * rn C n p most) = (anP C n p most)) ∧ ((0 ≤ (p + 2 + 2 * rn C n p most) ∧ (p + 2 + 2 * rn C n p most) ≤ 9999902) → (0 ≤ (anP C n p most) ∧ (anP C n p most) ≤ 9998200)))) ∧ (((n ≤ n) ∧ (∀ e21 : E, ((0 ≤ e21.den ∧ e21.den < n) → (((C (e21.den))) = ((C (e21.den))))))) ∧ (((anN C n p most) ≤ (rn C n p most)) ∧ (∀ e20 : E, ((0 ≤ e20.den ∧ e20.den < (anN C n p most)) → (((gX C n p (e20.den)) = (anX C n p most e20.den)) ∧ ((gY C n p (e20.den)) = (anY C n p most e20.den))))))))))))))) (by kernel_rfl) ?_
  intro h1 h2
  have hC : ∀ i, 0 ≤ i → i < n → 0 ≤ C i ∧ C i ≤ 255 := fun i a b => h2.2 (.v fun _ => i) ⟨a, b⟩
  have hb := pk_bd (p := p + 1) (k := most + 1) hC (by omega) (by omega) (by omega) (by omega)
  have e0 : pk C n (p + 1) (most + 1) = rn C n p most := rfl
  refine ⟨rfl, ⟨⟨rfl, rfl⟩, ⟨Int.le_refl _, fun _ => fun _ => rfl⟩⟩, ?_⟩
  intro c23
  refine ⟨?_, ?_⟩
  · intro c24
    refine ⟨⟨⟨rfl, rfl⟩, ⟨Int.le_refl _, fun _ => fun _ => rfl⟩⟩, ?_⟩
    intro c25
    refine ⟨?_, ?_⟩
    · intro c26
      refine ⟨rfl, ?_, ?_⟩
      · refine ⟨?_, Int.le_refl _, fun _ => fun _ => rfl⟩
        refine ⟨rfl, rfl, ?_⟩
        intro c27
        omega
      · intro c28
        refine ⟨?_, ?_, ?_, ?_, ⟨Int.le_refl _, fun _ => fun _ => rfl⟩, ?_, ?_, ?_⟩
        · have hk := pk_bd (p := p + 2 + 2 * rn C n p most + 1) (k := rn C n p most) hC (by omega) (by omega) (by omega) (by omega); omega
        · have hk := pk_bd (p := p + 2 + 2 * rn C n p most + 1) (k := rn C n p most) hC (by omega) (by omega) (by omega) (by omega); omega
        · simp [anX, anY, anN, anP, anS, *]; omega
        · refine ⟨rfl, ?_, ?_⟩
          · simp [anX, anY, anN, anP, anS, *]; omega
          · intro c29
            simp [anX, anY, anN, anP, anS, *]; omega
        · simp [anX, anY, anN, anP, anS, *]; omega
        · intro e5
          intro c30
          refine ⟨?_, ?_⟩
          · simp [anX, anY, anN, anP, anS, *]; done
          · simp [anX, anY, anN, anP, anS, *]; done
        · intro e4
          intro c31
          refine ⟨?_, ?_⟩
          · have hk := pk_bd (p := p + 2 + 2 * rn C n p most + 1) (k := rn C n p most) hC (by omega) (by omega) (by omega) (by omega); simp [anX, anY, anS, *]; omega
          · have hk := pk_bd (p := p + 2 + 2 * rn C n p most + 1) (k := rn C n p most) hC (by omega) (by omega) (by omega) (by omega); simp [anX, anY, anS, *]; omega
    · intro c32
      refine ⟨?_, ?_⟩
      · intro c33
        refine ⟨?_, ?_⟩
        · refine ⟨rn C n p most, ?_⟩
          try dsimp only
          refine ⟨?_, ?_, ?_, ⟨Int.le_refl _, fun _ => fun _ => rfl⟩, ?_, ?_⟩
          · omega
          · refine ⟨rfl, ?_⟩
            rfl
          · refine ⟨rfl, ?_, ?_⟩
            · omega
            · intro c34
              omega
          · omega
          · intro e9
            intro c35
            refine ⟨?_, ?_⟩
            · simp [anX, anY, anN, anP, anS, *]; done
            · simp [anX, anY, anN, anP, anS, *]; done
        · intro j
          intro I1
          refine ⟨?_, ?_⟩
          · intro c36
            refine ⟨⟨⟨rfl, rfl⟩, ⟨Int.le_refl _, fun _ => fun _ => rfl⟩⟩, ?_⟩
            intro c37
            refine ⟨?_, ?_⟩
            · rfl
            · refine ⟨j + 1, ?_⟩
              try dsimp only
              refine ⟨?_, ?_, ?_⟩
              · omega
              · refine ⟨?_, ?_, ⟨Int.le_refl _, fun _ => fun _ => rfl⟩, ?_, ⟨Int.le_refl _, fun _ => fun _ => ⟨rfl, rfl⟩⟩, ?_⟩
                · refine ⟨rfl, ?_, ?_⟩
                  · rfl
                  · intro c38
                    omega
                · refine ⟨rfl, ?_, ?_⟩
                  · omega
                  · intro c39
                    omega
                · omega
                · intro e13
                  intro c40
                  refine ⟨?_, ?_⟩
                  · simp [anX, anY, anN, anP, anS, *]; omega
                  · simp [anX, anY, anN, anP, anS, *]; omega
              · omega
          · intro c41
            refine ⟨?_, ?_, ⟨Int.le_refl _, fun _ => fun _ => rfl⟩, ?_, fun _ => fun _ => ⟨rfl, rfl⟩⟩
            · simp [anX, anY, anN, anP, anS, *]; omega
            · refine ⟨rfl, ?_, ?_⟩
              · simp [anX, anY, anN, anP, anS, *]; omega
              · intro c42
                simp [anX, anY, anN, anP, anS, *]; omega
            · simp [anX, anY, anN, anP, anS, *]; omega
      · intro c43
        refine ⟨?_, ?_, ⟨Int.le_refl _, fun _ => fun _ => rfl⟩, ?_, ?_⟩
        · simp [anX, anY, anN, anP, anS, *]; omega
        · refine ⟨rfl, ?_, ?_⟩
          · simp [anX, anY, anN, anP, anS, *]; omega
          · intro c44
            simp [anX, anY, anN, anP, anS, *]; omega
        · simp [anX, anY, anN, anP, anS, *]; omega
        · intro e18
          intro c45
          refine ⟨?_, ?_⟩
          · unfold anN anS at *; (repeat' split at *) <;> (first | omega | (simp [anX, anY, anS, *]; done) | (simp [anX, anY, anS, *]; omega))
          · unfold anN anS at *; (repeat' split at *) <;> (first | omega | (simp [anX, anY, anS, *]; done) | (simp [anX, anY, anS, *]; omega))
  · intro c46
    refine ⟨?_, ?_, ⟨Int.le_refl _, fun _ => fun _ => rfl⟩, ?_, ?_⟩
    · simp [anX, anY, anN, anP, anS, *]; omega
    · refine ⟨rfl, ?_, ?_⟩
      · simp [anX, anY, anN, anP, anS, *]; done
      · intro c47
        simp [anX, anY, anN, anP, anS, *]; omega
    · simp [anX, anY, anN, anP, anS, *]; done
    · intro e20
      intro c48
      refine ⟨?_, ?_⟩
      · unfold anN anS at *; (repeat' split at *) <;> (first | omega | (simp [anX, anY, anS, *]; done) | (simp [anX, anY, anS, *]; omega))
      · unfold anN anS at *; (repeat' split at *) <;> (first | omega | (simp [anX, anY, anS, *]; done) | (simp [anX, anY, anS, *]; omega))
def c_anyPoints (C : Int → Int) (n : Int) (p : Int) (most : Int) : Cn Try.prog := ⟨_, _, _, _, _, anyPoints C n p most⟩
def exQ (C : Int → Int) (n : Int) : Int := anP C n 0 8
end Go.Proofs.Ytljhomjaamjfaaa
