/- Points and indices drawn. -/
import Derived.Test.YtcfkpdjbjfnnmaaK81
import Derived.Test.YtcfkpdjbjfnnmaaR3
set_option linter.unusedSimpArgs false
set_option linter.unusedVariables false
set_option maxRecDepth 100000
namespace Go.Proofs.Ytcfkpdjbjfnnmaa
open Go.Sym
theorem one_3s (C : Int → Int) (n : Int) (p : Int) (L : Int → Int) : RunsTo Try.prog 121 [(.ptr 0 2 (.lit 0) 0), (.sl 1 1 (.lit 0) (.lit 3) 3)] [some ⟨115, 2, true, (.lit [[(.sl 2 1 (.lit 0) (.v fun _ => n) 2000), (.int .i64 (.v fun _ => p) 0 9999990)]])⟩, some ⟨3, 1, true, (.sym (.lit 3) fun e => [(.int .i64 (.v fun _ => (L (e.den))) (-9223372036854775808) 9223372036854775807)])⟩, some ⟨5, 1, false, (.sym (.v fun _ => n) fun e => [(.int .u8 (.v fun _ => (C (e.den))) 0 255)])⟩] (.int .i64 (.v fun _ => (L (pk C n p 3))) (-9223372036854775808) 9223372036854775807) [some ⟨115, 2, true, (.lit [[(.sl 2 1 (.lit 0) (.v fun _ => n) 2000), (.int .i64 (.v fun _ => p + 1) 0 9999991)]])⟩, some ⟨3, 1, true, (.sym (.lit 3) fun e => [(.int .i64 (.v fun _ => (L (e.den))) (-9223372036854775808) 9223372036854775807)])⟩, some ⟨5, 1, false, (.sym (.v fun _ => n) fun e => [(.int .u8 (.v fun _ => (C (e.den))) 0 255)])⟩] := by
  refine RunsTo.go env Try.func121 rfl Try.call121 rfl rfl (fun _ _ => (.callF (c_pick_3 C n p) (.need (.need .ret)))) (G := (True) → (((0 ≤ n ∧ n ≤ 2000) ∧ (0 ≤ p ∧ p ≤ 9999990)) ∧ ((∀ e5 : E, ((0 ≤ e5.den ∧ e5.den < 3) → ((-9223372036854775808) ≤ ((L (e5.den))) ∧ ((L (e5.den))) ≤ 9223372036854775807))) ∧ (∀ e4 : E, ((0 ≤ e4.den ∧ e4.den < n) → (0 ≤ ((C (e4.den))) ∧ ((C (e4.den))) ≤ 255))))) → (((0 ≤ (3 : Int) ∧ (3 : Int) ≤ 3) → (3 ≤ (3 : Int) ∧ (3 : Int) ≤ 3)) ∧ ((((n = n) ∧ (p = p)) ∧ ((n ≤ n) ∧ (∀ e1 : E, ((0 ≤ e1.den ∧ e1.den < n) → (((C (e1.den))) = ((C (e1.den)))))))) ∧ ((0 ≤ (pk C n p 3) ∧ (pk C n p 3) ≤ 2) → ((((0 ≤ (pk C n p 3)) ∧ ((pk C n p 3) < 3))) ∧ (((pk C n p 3) < 3) ∧ ((((L (pk C n p 3))) = ((L (pk C n p 3)))) ∧ (((n = n) ∧ (((p + 1) = (p + 1)) ∧ ((0 ≤ (p + 1) ∧ (p + 1) ≤ 10000001) → (0 ≤ (p + 1) ∧ (p + 1) ≤ 9999991)))) ∧ ((((3 : Int) ≤ 3) ∧ (∀ e3 : E, ((0 ≤ e3.den ∧ e3.den < 3) → (((L (e3.den))) = ((L (e3.den))))))) ∧ ((n ≤ n) ∧ (∀ e2 : E, ((0 ≤ e2.den ∧ e2.den < n) → (((C (e2.den))) = ((C (e2.den)))))))))))))))) (by kernel_rfl) ?_
  intro h1 h2
  refine ⟨?_, ⟨⟨rfl, rfl⟩, ⟨Int.le_refl _, fun _ => fun _ => rfl⟩⟩, ?_⟩
  · intro c6
    omega
  · intro c7
    refine ⟨?_, ?_, rfl, ?_, ⟨Int.le_refl _, fun _ => fun _ => rfl⟩, Int.le_refl _, fun _ => fun _ => rfl⟩
    · omega
    · omega
    · refine ⟨rfl, rfl, ?_⟩
      intro c8
      omega
def c_one_3s (C : Int → Int) (n : Int) (p : Int) (L : Int → Int) : Cn Try.prog := ⟨_, _, _, _, _, one_3s C n p L⟩
theorem anP_bd {C : Int → Int} {n p most : Int} (hC : ∀ i, 0 ≤ i → i < n → 0 ≤ C i ∧ C i ≤ 255) (hn : 0 ≤ n) (hp : 0 ≤ p ∧ p ≤ 1000) (hm : 0 ≤ most ∧ most ≤ 20) : p ≤ anP C n p most ∧ anP C n p most ≤ p + 100 := by
  have h := pk_bd (C := C) (n := n) (p := p + 1) (k := most + 1) hC (by omega) (by omega) (by omega) (by omega)
  have e : pk C n (p + 1) (most + 1) = rn C n p most := rfl
  rw [e] at h
  unfold anP
  split
  · omega
  · split
    · omega
    · split <;> omega
theorem someSupport (C : Int → Int) (n : Int) : Runs Try.prog 74 [(.sl 0 1 (.lit 0) (.v fun _ => n) 9223372036854775807)] [some ⟨5, 1, false, (.sym (.v fun _ => n) fun e => [(.int .u8 (.v fun _ => (C (e.den))) 0 255)])⟩] fun rr mm => ∃ x : (Int → Int) × Int, (0 ≤ x.2 ∧ x.2 ≤ 3) ∧ rr = (.tup [(.sl 1 2 (.lit 0) (.v fun _ => anN C (cut n) 0 7) 64), (.sl 2 1 (.lit 0) (.v fun _ => x.2) 3)]) ∧ mm = [some ⟨5, 1, false, (.sym (.v fun _ => cut n) fun e => [(.int .u8 (.v fun _ => (C (e.den))) 0 255)])⟩, some ⟨50, 2, true, (.sym (.v fun _ => anN C (cut n) 0 7) fun e => [(.int .i64 (.v fun _ => anX C (cut n) 0 7 (e.den)) (-9223372036854775808) 9223372036854775807), (.int .i64 (.v fun _ => anY C (cut n) 0 7 (e.den)) (-9223372036854775808) 9223372036854775807)])⟩, some ⟨3, 1, true, (.sym (.v fun _ => x.2) fun e => [(.int .i64 (.v fun _ => (x.1 (e.den))) (-9223372036854775808) 9223372036854775807)])⟩] := by
  refine RunsX.go (X := (Int → Int) × Int) (I := (fun x => 0 ≤ x.2 ∧ x.2 ≤ 3)) (R := (fun x => (.tup [(.sl 1 2 (.lit 0) (.v fun _ => anN C (cut n) 0 7) 64), (.sl 2 1 (.lit 0) (.v fun _ => x.2) 3)]))) (M := (fun x => [some ⟨5, 1, false, (.sym (.v fun _ => cut n) fun e => [(.int .u8 (.v fun _ => (C (e.den))) 0 255)])⟩, some ⟨50, 2, true, (.sym (.v fun _ => anN C (cut n) 0 7) fun e => [(.int .i64 (.v fun _ => anX C (cut n) 0 7 (e.den)) (-9223372036854775808) 9223372036854775807), (.int .i64 (.v fun _ => anY C (cut n) 0 7 (e.den)) (-9223372036854775808) 9223372036854775807)])⟩, some ⟨3, 1, true, (.sym (.v fun _ => x.2) fun e => [(.int .i64 (.v fun _ => (x.1 (e.den))) (-9223372036854775808) 9223372036854775807)])⟩])) env Try.func74 rfl Try.call74 rfl rfl (fun _ _ => (.call (c_s_newReader C n) (.callF (c_anyPoints C (cut n) 0 7) (.callF (c_s_EnclosingSupport (anX C (cut n) 0 7) (anY C (cut n) 0 7) (anN C (cut n) 0 7)) (.need (.callF (c_pick_2 C (cut n) (anP C (cut n) 0 7)) (.ite (.loop [] [0, 1, 2, 5] ((Int → Int) × Int × Int × Int) (fun x5 => ⟨spl 53 0 [(2, (.raw (.slice none 0 0))), (3, (.raw (.slice none 0 0))), (4, (.ptr 1 2 (.lit 0) 0)), (5, (.sl 2 2 (.lit 0) (.v fun _ => anN C (cut n) 0 7) 64)), (6, (.sl 3 1 (.lit 0) (.v fun _ => x5.2.1) 3)), (7, (.int .i64 (.v fun _ => x5.2.2.1) 0 64))], [some ⟨5, 1, false, (.sym (.v fun _ => (cut n)) fun e => [(.int .u8 (.v fun _ => ((C (e.den)))) 0 255)])⟩, some ⟨115, 2, true, (.lit [[(.sl 0 1 (.lit 0) (.v fun _ => cut n) 2000), (.int .i64 (.v fun _ => x5.2.2.2) 0 9999000)]])⟩, some ⟨50, 2, true, (.sym (.v fun _ => (anN C (cut n) 0 7)) fun e => [(.int .i64 (.v fun _ => (anX C (cut n) 0 7 ((e.den)))) (-9223372036854775808) 9223372036854775807), (.int .i64 (.v fun _ => (anY C (cut n) 0 7 ((e.den)))) (-9223372036854775808) 9223372036854775807)])⟩, some ⟨3, 1, true, (.sym (.v fun _ => x5.2.1) fun e => [(.int .i64 (.v fun _ => (x5.1 (e.den))) (-9223372036854775808) 9223372036854775807)])⟩], 1⟩) (fun x5 => (0 ≤ x5.2.1 ∧ x5.2.1 ≤ 3) ∧ (0 ≤ x5.2.2.1 ∧ x5.2.2.1 ≤ anN C (cut n) 0 7) ∧ 0 ≤ x5.2.2.2 ∧ x5.2.2.2 ≤ 9998300 + x5.2.2.1) (fun x5 => (anN C (cut n) 0 7 - x5.2.2.1).toNat) fun x5 => (.ite (.ite (.callF (c_pick_2 C (cut n) x5.2.2.2) (.ite (.need (.next [0, 1, 2, 3])) (.next [0, 1, 2, 3]))) (.out (.ite (.callF (c_pick_10 C (cut n) x5.2.2.2) (.ite (.callF (c_one_3s C (cut n) (x5.2.2.2 + 1) (selL [(-1), 20, 3])) (.need (.need .ret))) .ret)) .ret))) (.out (.ite (.callF (c_pick_10 C (cut n) x5.2.2.2) (.ite (.callF (c_one_3s C (cut n) (x5.2.2.2 + 1) (selL [(-1), 20, 3])) (.need (.need .ret))) .ret)) .ret)))) (.ite (.callF (c_pick_10 C (cut n) ((anP C (cut n) 0 7) + 1)) (.ite (.callF (c_one_3s C (cut n) (((anP C (cut n) 0 7) + 1) + 1) (selL [(-1), 20, 3])) (.need (.need .ret))) .ret)) .ret)))))))) (G := (0 ≤ n ∧ n ≤ 9223372036854775807) → (∀ e73 : E, ((0 ≤ e73.den ∧ e73.den < n) → (0 ≤ ((C (e73.den))) ∧ ((C (e73.den))) ≤ 255))) → ((n = n) ∧ (((n ≤ n) ∧ (∀ e1 : E, ((0 ≤ e1.den ∧ e1.den < n) → (((C (e1.den))) = ((C (e1.den))))))) ∧ (((7 : Int) = 7) ∧ (((((cut n) = (cut n)) ∧ ((0 : Int) = 0)) ∧ (((cut n) ≤ (cut n)) ∧ (∀ e2 : E, ((0 ≤ e2.den ∧ e2.den < (cut n)) → (((C (e2.den))) = ((C (e2.den)))))))) ∧ ((0 ≤ (anN C (cut n) 0 7) ∧ (anN C (cut n) 0 7) ≤ 64) → (((anN C (cut n) 0 7) = (anN C (cut n) 0 7)) ∧ ((((anN C (cut n) 0 7) ≤ (anN C (cut n) 0 7)) ∧ (∀ e3 : E, ((0 ≤ e3.den ∧ e3.den < (anN C (cut n) 0 7)) → (((anX C (cut n) 0 7 (e3.den)) = (anX C (cut n) 0 7 ((e3.den)))) ∧ ((anY C (cut n) 0 7 (e3.den)) = (anY C (cut n) 0 7 ((e3.den)))))))) ∧ ((0 ≤ (esM (anX C (cut n) 0 7) (anY C (cut n) 0 7) (anN C (cut n) 0 7)) ∧ (esM (anX C (cut n) 0 7) (anY C (cut n) 0 7) (anN C (cut n) 0 7)) ≤ 3) → ((((esM (anX C (cut n) 0 7) (anY C (cut n) 0 7) (anN C (cut n) 0 7)) ≤ (esM (anX C (cut n) 0 7) (anY C (cut n) 0 7) (anN C (cut n) 0 7))) ∧ ((oneF (.v fun _ => esM (anX C (cut n) 0 7) (anY C (cut n) 0 7) (anN C (cut n) 0 7)) (fun e => [(.int .i64 (.v fun _ => esA (anX C (cut n) 0 7) (anY C (cut n) 0 7) (anN C (cut n) 0 7) (e.den)) (-9223372036854775808) 9223372036854775807)])) = true)) ∧ (((((cut n) = (cut n)) ∧ ((anP C (cut n) 0 7) = (anP C (cut n) 0 7))) ∧ (((cut n) ≤ (cut n)) ∧ (∀ e4 : E, ((0 ≤ e4.den ∧ e4.den < (cut n)) → (((C (e4.den))) = ((C (e4.den)))))))) ∧ ((0 ≤ (pk C (cut n) (anP C (cut n) 0 7) 2) ∧ (pk C (cut n) (anP C (cut n) 0 7) 2) ≤ 1) → ((((pk C (cut n) (anP C (cut n) 0 7) 2) = 0) → ((∃ y6 : (Int → Int) × Int × Int × Int, (((0 ≤ y6.2.1 ∧ y6.2.1 ≤ 3) ∧ (0 ≤ y6.2.2.1 ∧ y6.2.2.1 ≤ anN C (cut n) 0 7) ∧ 0 ≤ y6.2.2.2 ∧ y6.2.2.2 ≤ 9998300 + y6.2.2.1) ∧ (((((.slice none 0 0) : Value) = (.slice none 0 0)) ∧ ((((.slice none 0 0) : Value) = (.slice none 0 0)) ∧ (((anN C (cut n) 0 7) = (anN C (cut n) 0 7)) ∧ (((0 : Int) = y6.2.1) ∧ ((0 : Int) = y6.2.2.1))))) ∧ ((((cut n) ≤ (cut n)) ∧ (∀ e8 : E, ((0 ≤ e8.den ∧ e8.den < (cut n)) → (((C (e8.den))) = ((C (e8.den))))))) ∧ ((((cut n) = (cut n)) ∧ ((((anP C (cut n) 0 7) + 1) = y6.2.2.2) ∧ ((0 ≤ ((anP C (cut n) 0 7) + 1) ∧ ((anP C (cut n) 0 7) + 1) ≤ 10000001) → (0 ≤ y6.2.2.2 ∧ y6.2.2.2 ≤ 9999000)))) ∧ ((((anN C (cut n) 0 7) ≤ (anN C (cut n) 0 7)) ∧ (∀ e7 : E, ((0 ≤ e7.den ∧ e7.den < (anN C (cut n) 0 7)) → (((anX C (cut n) 0 7 ((e7.den))) = (anX C (cut n) 0 7 ((e7.den)))) ∧ ((anY C (cut n) 0 7 ((e7.den))) = (anY C (cut n) 0 7 ((e7.den)))))))) ∧ (y6.2.1 = 0))))))) ∧ (∀ x5 : (Int → Int) × Int × Int × Int, (((0 ≤ x5.2.1 ∧ x5.2.1 ≤ 3) ∧ (0 ≤ x5.2.2.1 ∧ x5.2.2.1 ≤ anN C (cut n) 0 7) ∧ 0 ≤ x5.2.2.2 ∧ x5.2.2.2 ≤ 9998300 + x5.2.2.1) → (((x5.2.2.1 < (anN C (cut n) 0 7)) → (((x5.2.1 < 3) → (((((cut n) = (cut n)) ∧ (x5.2.2.2 = x5.2.2.2)) ∧ (((cut n) ≤ (cut n)) ∧ (∀ e9 : E, ((0 ≤ e9.den ∧ e9.den < (cut n)) → (((C (e9.den))) = ((C (e9.den)))))))) ∧ ((0 ≤ (pk C (cut n) x5.2.2.2 2) ∧ (pk C (cut n) x5.2.2.2 2) ≤ 1) → ((((pk C (cut n) x5.2.2.2 2) = 0) → ((x5.2.1 = x5.2.1) ∧ (∃ y10 : (Int → Int) × Int × Int × Int, (((0 ≤ y10.2.1 ∧ y10.2.1 ≤ 3) ∧ (0 ≤ y10.2.2.1 ∧ y10.2.2.1 ≤ anN C (cut n) 0 7) ∧ 0 ≤ y10.2.2.2 ∧ y10.2.2.2 ≤ 9998300 + y10.2.2.1) ∧ ((((((.slice none 0 0) : Value) = (.slice none 0 0)) ∧ ((((.slice none 0 0) : Value) = (.slice none 0 0)) ∧ (((anN C (cut n) 0 7) = (anN C (cut n) 0 7)) ∧ ((((x5.2.1 + 1) = y10.2.1) ∧ (((x5.2.1 + 1) ≤ 4) → (y10.2.1 ≤ 3))) ∧ (((x5.2.2.1 + 1) = y10.2.2.1) ∧ ((1 ≤ (x5.2.2.1 + 1) ∧ (x5.2.2.1 + 1) ≤ 65) → (0 ≤ y10.2.2.1 ∧ y10.2.2.1 ≤ 64))))))) ∧ ((((cut n) ≤ (cut n)) ∧ (∀ e14 : E, ((0 ≤ e14.den ∧ e14.den < (cut n)) → (((C (e14.den))) = ((C (e14.den))))))) ∧ ((((cut n) = (cut n)) ∧ (((x5.2.2.2 + 1) = y10.2.2.2) ∧ ((0 ≤ (x5.2.2.2 + 1) ∧ (x5.2.2.2 + 1) ≤ 10000001) → (0 ≤ y10.2.2.2 ∧ y10.2.2.2 ≤ 9999000)))) ∧ ((((anN C (cut n) 0 7) ≤ (anN C (cut n) 0 7)) ∧ (∀ e13 : E, ((0 ≤ e13.den ∧ e13.den < (anN C (cut n) 0 7)) → (((anX C (cut n) 0 7 ((e13.den))) = (anX C (cut n) 0 7 ((e13.den)))) ∧ ((anY C (cut n) 0 7 ((e13.den))) = (anY C (cut n) 0 7 ((e13.den)))))))) ∧ (((0 : Int) ≤ x5.2.1 ∧ y10.2.1 = x5.2.1 + 1) ∧ (((x5.2.1 ≤ x5.2.1) ∧ (∀ e12 : E, ((0 ≤ e12.den ∧ e12.den < x5.2.1) → (((x5.1 (e12.den))) = ((y10.1 (e12.den))))))) ∧ (∀ e11 : E, ((e11.den = x5.2.1) → (x5.2.2.1 = ((y10.1 (e11.den)))))))))))) ∧ ((anN C (cut n) 0 7 - y10.2.2.1).toNat < (anN C (cut n) 0 7 - x5.2.2.1).toNat)))))) ∧ (((pk C (cut n) x5.2.2.2 2) ≠ 0) → (∃ y15 : (Int → Int) × Int × Int × Int, (((0 ≤ y15.2.1 ∧ y15.2.1 ≤ 3) ∧ (0 ≤ y15.2.2.1 ∧ y15.2.2.1 ≤ anN C (cut n) 0 7) ∧ 0 ≤ y15.2.2.2 ∧ y15.2.2.2 ≤ 9998300 + y15.2.2.1) ∧ ((((((.slice none 0 0) : Value) = (.slice none 0 0)) ∧ ((((.slice none 0 0) : Value) = (.slice none 0 0)) ∧ (((anN C (cut n) 0 7) = (anN C (cut n) 0 7)) ∧ ((x5.2.1 = y15.2.1) ∧ (((x5.2.2.1 + 1) = y15.2.2.1) ∧ ((1 ≤ (x5.2.2.1 + 1) ∧ (x5.2.2.1 + 1) ≤ 65) → (0 ≤ y15.2.2.1 ∧ y15.2.2.1 ≤ 64))))))) ∧ ((((cut n) ≤ (cut n)) ∧ (∀ e18 : E, ((0 ≤ e18.den ∧ e18.den < (cut n)) → (((C (e18.den))) = ((C (e18.den))))))) ∧ ((((cut n) = (cut n)) ∧ (((x5.2.2.2 + 1) = y15.2.2.2) ∧ ((0 ≤ (x5.2.2.2 + 1) ∧ (x5.2.2.2 + 1) ≤ 10000001) → (0 ≤ y15.2.2.2 ∧ y15.2.2.2 ≤ 9999000)))) ∧ ((((anN C (cut n) 0 7) ≤ (anN C (cut n) 0 7)) ∧ (∀ e17 : E, ((0 ≤ e17.den ∧ e17.den < (anN C (cut n) 0 7)) → (((anX C (cut n) 0 7 ((e17.den))) = (anX C (cut n) 0 7 ((e17.den)))) ∧ ((anY C (cut n) 0 7 ((e17.den))) = (anY C (cut n) 0 7 ((e17.den)))))))) ∧ ((y15.2.1 ≤ x5.2.1) ∧ (∀ e16 : E, ((0 ≤ e16.den ∧ e16.den < y15.2.1) → (((x5.1 (e16.den))) = ((y15.1 (e16.den))))))))))) ∧ ((anN C (cut n) 0 7 - y15.2.2.1).toNat < (anN C (cut n) 0 7 - x5.2.2.1).toNat))))))))) ∧ ((3 ≤ x5.2.1) → (((0 < x5.2.1) → (((((cut n) = (cut n)) ∧ (x5.2.2.2 = x5.2.2.2)) ∧ (((cut n) ≤ (cut n)) ∧ (∀ e19 : E, ((0 ≤ e19.den ∧ e19.den < (cut n)) → (((C (e19.den))) = ((C (e19.den)))))))) ∧ ((0 ≤ (pk C (cut n) x5.2.2.2 10) ∧ (pk C (cut n) x5.2.2.2 10) ≤ 9) → ((((pk C (cut n) x5.2.2.2 10) = 0) → (((((cut n) = (cut n)) ∧ (((x5.2.2.2 + 1) = (x5.2.2.2 + 1)) ∧ ((0 ≤ (x5.2.2.2 + 1) ∧ (x5.2.2.2 + 1) ≤ 10000001) → (0 ≤ (x5.2.2.2 + 1) ∧ (x5.2.2.2 + 1) ≤ 9999990)))) ∧ (((∀ e23 : E, ((e23.den = 0) → (((-1) : Int) = (selL [(-1), 20, 3] (e23.den))))) ∧ ((∀ e22 : E, ((e22.den = 1) → ((20 : Int) = (selL [(-1), 20, 3] (e22.den))))) ∧ (∀ e21 : E, ((e21.den = 2) → ((3 : Int) = (selL [(-1), 20, 3] (e21.den))))))) ∧ (((cut n) ≤ (cut n)) ∧ (∀ e20 : E, ((0 ≤ e20.den ∧ e20.den < (cut n)) → (((C (e20.den))) = ((C (e20.den))))))))) ∧ (((-9223372036854775808) ≤ (selL [(-1), 20, 3] (pk C (cut n) (x5.2.2.2 + 1) 3)) ∧ (selL [(-1), 20, 3] (pk C (cut n) (x5.2.2.2 + 1) 3)) ≤ 9223372036854775807) → ((0 < x5.2.1) ∧ ((0 < x5.2.1) ∧ (∃ y24 : (Int → Int) × Int, ((0 ≤ y24.2 ∧ y24.2 ≤ 3) ∧ ((((anN C (cut n) 0 7) = (anN C (cut n) 0 7)) ∧ (x5.2.1 = y24.2)) ∧ ((((cut n) ≤ (cut n)) ∧ (∀ e28 : E, ((0 ≤ e28.den ∧ e28.den < (cut n)) → (((C (e28.den))) = ((C (e28.den))))))) ∧ ((((anN C (cut n) 0 7) ≤ (anN C (cut n) 0 7)) ∧ (∀ e27 : E, ((0 ≤ e27.den ∧ e27.den < (anN C (cut n) 0 7)) → (((anX C (cut n) 0 7 ((e27.den))) = (anX C (cut n) 0 7 (e27.den))) ∧ ((anY C (cut n) 0 7 ((e27.den))) = (anY C (cut n) 0 7 (e27.den))))))) ∧ ((y24.2 = x5.2.1) ∧ ((∀ e26 : E, ((0 ≤ e26.den ∧ e26.den < x5.2.1 ∧ e26.den ≠ 0) → (((x5.1 (e26.den))) = ((y24.1 (e26.den)))))) ∧ (∀ e25 : E, ((e25.den.toNat = (0 : Int).toNat ∧ 0 ≤ e25.den) → ((selL [(-1), 20, 3] (pk C (cut n) (x5.2.2.2 + 1) 3)) = ((y24.1 (e25.den)))))))))))))))))) ∧ (((pk C (cut n) x5.2.2.2 10) ≠ 0) → (∃ y29 : (Int → Int) × Int, ((0 ≤ y29.2 ∧ y29.2 ≤ 3) ∧ ((((anN C (cut n) 0 7) = (anN C (cut n) 0 7)) ∧ (x5.2.1 = y29.2)) ∧ ((((cut n) ≤ (cut n)) ∧ (∀ e32 : E, ((0 ≤ e32.den ∧ e32.den < (cut n)) → (((C (e32.den))) = ((C (e32.den))))))) ∧ ((((anN C (cut n) 0 7) ≤ (anN C (cut n) 0 7)) ∧ (∀ e31 : E, ((0 ≤ e31.den ∧ e31.den < (anN C (cut n) 0 7)) → (((anX C (cut n) 0 7 ((e31.den))) = (anX C (cut n) 0 7 (e31.den))) ∧ ((anY C (cut n) 0 7 ((e31.den))) = (anY C (cut n) 0 7 (e31.den))))))) ∧ ((y29.2 ≤ x5.2.1) ∧ (∀ e30 : E, ((0 ≤ e30.den ∧ e30.den < y29.2) → (((x5.1 (e30.den))) = ((y29.1 (e30.den))))))))))))))))) ∧ ((x5.2.1 ≤ 0) → (∃ y33 : (Int → Int) × Int, ((0 ≤ y33.2 ∧ y33.2 ≤ 3) ∧ ((((anN C (cut n) 0 7) = (anN C (cut n) 0 7)) ∧ (x5.2.1 = y33.2)) ∧ ((((cut n) ≤ (cut n)) ∧ (∀ e36 : E, ((0 ≤ e36.den ∧ e36.den < (cut n)) → (((C (e36.den))) = ((C (e36.den))))))) ∧ ((((anN C (cut n) 0 7) ≤ (anN C (cut n) 0 7)) ∧ (∀ e35 : E, ((0 ≤ e35.den ∧ e35.den < (anN C (cut n) 0 7)) → (((anX C (cut n) 0 7 ((e35.den))) = (anX C (cut n) 0 7 (e35.den))) ∧ ((anY C (cut n) 0 7 ((e35.den))) = (anY C (cut n) 0 7 (e35.den))))))) ∧ ((y33.2 ≤ x5.2.1) ∧ (∀ e34 : E, ((0 ≤ e34.den ∧ e34.den < y33.2) → (((x5.1 (e34.den))) = ((y33.1 (e34.den))))))))))))))))) ∧ (((anN C (cut n) 0 7) ≤ x5.2.2.1) → (((0 < x5.2.1) → (((((cut n) = (cut n)) ∧ (x5.2.2.2 = x5.2.2.2)) ∧ (((cut n) ≤ (cut n)) ∧ (∀ e37 : E, ((0 ≤ e37.den ∧ e37.den < (cut n)) → (((C (e37.den))) = ((C (e37.den)))))))) ∧ ((0 ≤ (pk C (cut n) x5.2.2.2 10) ∧ (pk C (cut n) x5.2.2.2 10) ≤ 9) → ((((pk C (cut n) x5.2.2.2 10) = 0) → (((((cut n) = (cut n)) ∧ (((x5.2.2.2 + 1) = (x5.2.2.2 + 1)) ∧ ((0 ≤ (x5.2.2.2 + 1) ∧ (x5.2.2.2 + 1) ≤ 10000001) → (0 ≤ (x5.2.2.2 + 1) ∧ (x5.2.2.2 + 1) ≤ 9999990)))) ∧ (((∀ e41 : E, ((e41.den = 0) → (((-1) : Int) = (selL [(-1), 20, 3] (e41.den))))) ∧ ((∀ e40 : E, ((e40.den = 1) → ((20 : Int) = (selL [(-1), 20, 3] (e40.den))))) ∧ (∀ e39 : E, ((e39.den = 2) → ((3 : Int) = (selL [(-1), 20, 3] (e39.den))))))) ∧ (((cut n) ≤ (cut n)) ∧ (∀ e38 : E, ((0 ≤ e38.den ∧ e38.den < (cut n)) → (((C (e38.den))) = ((C (e38.den))))))))) ∧ (((-9223372036854775808) ≤ (selL [(-1), 20, 3] (pk C (cut n) (x5.2.2.2 + 1) 3)) ∧ (selL [(-1), 20, 3] (pk C (cut n) (x5.2.2.2 + 1) 3)) ≤ 9223372036854775807) → ((0 < x5.2.1) ∧ ((0 < x5.2.1) ∧ (∃ y42 : (Int → Int) × Int, ((0 ≤ y42.2 ∧ y42.2 ≤ 3) ∧ ((((anN C (cut n) 0 7) = (anN C (cut n) 0 7)) ∧ (x5.2.1 = y42.2)) ∧ ((((cut n) ≤ (cut n)) ∧ (∀ e46 : E, ((0 ≤ e46.den ∧ e46.den < (cut n)) → (((C (e46.den))) = ((C (e46.den))))))) ∧ ((((anN C (cut n) 0 7) ≤ (anN C (cut n) 0 7)) ∧ (∀ e45 : E, ((0 ≤ e45.den ∧ e45.den < (anN C (cut n) 0 7)) → (((anX C (cut n) 0 7 ((e45.den))) = (anX C (cut n) 0 7 (e45.den))) ∧ ((anY C (cut n) 0 7 ((e45.den))) = (anY C (cut n) 0 7 (e45.den))))))) ∧ ((y42.2 = x5.2.1) ∧ ((∀ e44 : E, ((0 ≤ e44.den ∧ e44.den < x5.2.1 ∧ e44.den ≠ 0) → (((x5.1 (e44.den))) = ((y42.1 (e44.den)))))) ∧ (∀ e43 : E, ((e43.den.toNat = (0 : Int).toNat ∧ 0 ≤ e43.den) → ((selL [(-1), 20, 3] (pk C (cut n) (x5.2.2.2 + 1) 3)) = ((y42.1 (e43.den)))))))))))))))))) ∧ (((pk C (cut n) x5.2.2.2 10) ≠ 0) → (∃ y47 : (Int → Int) × Int, ((0 ≤ y47.2 ∧ y47.2 ≤ 3) ∧ ((((anN C (cut n) 0 7) = (anN C (cut n) 0 7)) ∧ (x5.2.1 = y47.2)) ∧ ((((cut n) ≤ (cut n)) ∧ (∀ e50 : E, ((0 ≤ e50.den ∧ e50.den < (cut n)) → (((C (e50.den))) = ((C (e50.den))))))) ∧ ((((anN C (cut n) 0 7) ≤ (anN C (cut n) 0 7)) ∧ (∀ e49 : E, ((0 ≤ e49.den ∧ e49.den < (anN C (cut n) 0 7)) → (((anX C (cut n) 0 7 ((e49.den))) = (anX C (cut n) 0 7 (e49.den))) ∧ ((anY C (cut n) 0 7 ((e49.den))) = (anY C (cut n) 0 7 (e49.den))))))) ∧ ((y47.2 ≤ x5.2.1) ∧ (∀ e48 : E, ((0 ≤ e48.den ∧ e48.den < y47.2) → (((x5.1 (e48.den))) = ((y47.1 (e48.den))))))))))))))))) ∧ ((x5.2.1 ≤ 0) → (∃ y51 : (Int → Int) × Int, ((0 ≤ y51.2 ∧ y51.2 ≤ 3) ∧ ((((anN C (cut n) 0 7) = (anN C (cut n) 0 7)) ∧ (x5.2.1 = y51.2)) ∧ ((((cut n) ≤ (cut n)) ∧ (∀ e54 : E, ((0 ≤ e54.den ∧ e54.den < (cut n)) → (((C (e54.den))) = ((C (e54.den))))))) ∧ ((((anN C (cut n) 0 7) ≤ (anN C (cut n) 0 7)) ∧ (∀ e53 : E, ((0 ≤ e53.den ∧ e53.den < (anN C (cut n) 0 7)) → (((anX C (cut n) 0 7 ((e53.den))) = (anX C (cut n) 0 7 (e53.den))) ∧ ((anY C (cut n) 0 7 ((e53.den))) = (anY C (cut n) 0 7 (e53.den))))))) ∧ ((y51.2 ≤ x5.2.1) ∧ (∀ e52 : E, ((0 ≤ e52.den ∧ e52.den < y51.2) → (((x5.1 (e52.den))) = ((y51.1 (e52.den)))))))))))))))))))) ∧ (((pk C (cut n) (anP C (cut n) 0 7) 2) ≠ 0) → (((0 < (esM (anX C (cut n) 0 7) (anY C (cut n) 0 7) (anN C (cut n) 0 7))) → (((((cut n) = (cut n)) ∧ ((((anP C (cut n) 0 7) + 1) = ((anP C (cut n) 0 7) + 1)) ∧ ((0 ≤ ((anP C (cut n) 0 7) + 1) ∧ ((anP C (cut n) 0 7) + 1) ≤ 10000001) → (0 ≤ ((anP C (cut n) 0 7) + 1) ∧ ((anP C (cut n) 0 7) + 1) ≤ 10000000)))) ∧ (((cut n) ≤ (cut n)) ∧ (∀ e55 : E, ((0 ≤ e55.den ∧ e55.den < (cut n)) → (((C (e55.den))) = ((C (e55.den)))))))) ∧ ((0 ≤ (pk C (cut n) ((anP C (cut n) 0 7) + 1) 10) ∧ (pk C (cut n) ((anP C (cut n) 0 7) + 1) 10) ≤ 9) → ((((pk C (cut n) ((anP C (cut n) 0 7) + 1) 10) = 0) → (((((cut n) = (cut n)) ∧ (((((anP C (cut n) 0 7) + 1) + 1) = ((((anP C (cut n) 0 7) + 1) + 1))) ∧ ((0 ≤ (((anP C (cut n) 0 7) + 1) + 1) ∧ (((anP C (cut n) 0 7) + 1) + 1) ≤ 10000001) → (0 ≤ ((((anP C (cut n) 0 7) + 1) + 1)) ∧ ((((anP C (cut n) 0 7) + 1) + 1)) ≤ 9999990)))) ∧ (((∀ e59 : E, ((e59.den = 0) → (((-1) : Int) = (selL [(-1), 20, 3] (e59.den))))) ∧ ((∀ e58 : E, ((e58.den = 1) → ((20 : Int) = (selL [(-1), 20, 3] (e58.den))))) ∧ (∀ e57 : E, ((e57.den = 2) → ((3 : Int) = (selL [(-1), 20, 3] (e57.den))))))) ∧ (((cut n) ≤ (cut n)) ∧ (∀ e56 : E, ((0 ≤ e56.den ∧ e56.den < (cut n)) → (((C (e56.den))) = ((C (e56.den))))))))) ∧ (((-9223372036854775808) ≤ ((selL [(-1), 20, 3] (pk C (cut n) (((anP C (cut n) 0 7) + 1) + 1) 3))) ∧ ((selL [(-1), 20, 3] (pk C (cut n) (((anP C (cut n) 0 7) + 1) + 1) 3))) ≤ 9223372036854775807) → ((0 < (esM (anX C (cut n) 0 7) (anY C (cut n) 0 7) (anN C (cut n) 0 7))) ∧ ((0 < (esM (anX C (cut n) 0 7) (anY C (cut n) 0 7) (anN C (cut n) 0 7))) ∧ (∃ y60 : (Int → Int) × Int, ((0 ≤ y60.2 ∧ y60.2 ≤ 3) ∧ ((((anN C (cut n) 0 7) = (anN C (cut n) 0 7)) ∧ ((esM (anX C (cut n) 0 7) (anY C (cut n) 0 7) (anN C (cut n) 0 7)) = y60.2)) ∧ ((((cut n) ≤ (cut n)) ∧ (∀ e64 : E, ((0 ≤ e64.den ∧ e64.den < (cut n)) → (((C (e64.den))) = ((C (e64.den))))))) ∧ ((((anN C (cut n) 0 7) ≤ (anN C (cut n) 0 7)) ∧ (∀ e63 : E, ((0 ≤ e63.den ∧ e63.den < (anN C (cut n) 0 7)) → (((anX C (cut n) 0 7 ((e63.den))) = (anX C (cut n) 0 7 (e63.den))) ∧ ((anY C (cut n) 0 7 ((e63.den))) = (anY C (cut n) 0 7 (e63.den))))))) ∧ ((y60.2 = (esM (anX C (cut n) 0 7) (anY C (cut n) 0 7) (anN C (cut n) 0 7))) ∧ ((∀ e62 : E, ((0 ≤ e62.den ∧ e62.den < (esM (anX C (cut n) 0 7) (anY C (cut n) 0 7) (anN C (cut n) 0 7)) ∧ e62.den ≠ 0) → ((esA (anX C (cut n) 0 7) (anY C (cut n) 0 7) (anN C (cut n) 0 7) (e62.den)) = ((y60.1 (e62.den)))))) ∧ (∀ e61 : E, ((e61.den.toNat = (0 : Int).toNat ∧ 0 ≤ e61.den) → (((selL [(-1), 20, 3] (pk C (cut n) (((anP C (cut n) 0 7) + 1) + 1) 3))) = ((y60.1 (e61.den)))))))))))))))))) ∧ (((pk C (cut n) ((anP C (cut n) 0 7) + 1) 10) ≠ 0) → (∃ y65 : (Int → Int) × Int, ((0 ≤ y65.2 ∧ y65.2 ≤ 3) ∧ ((((anN C (cut n) 0 7) = (anN C (cut n) 0 7)) ∧ ((esM (anX C (cut n) 0 7) (anY C (cut n) 0 7) (anN C (cut n) 0 7)) = y65.2)) ∧ ((((cut n) ≤ (cut n)) ∧ (∀ e68 : E, ((0 ≤ e68.den ∧ e68.den < (cut n)) → (((C (e68.den))) = ((C (e68.den))))))) ∧ ((((anN C (cut n) 0 7) ≤ (anN C (cut n) 0 7)) ∧ (∀ e67 : E, ((0 ≤ e67.den ∧ e67.den < (anN C (cut n) 0 7)) → (((anX C (cut n) 0 7 ((e67.den))) = (anX C (cut n) 0 7 (e67.den))) ∧ ((anY C (cut n) 0 7 ((e67.den))) = (anY C (cut n) 0 7 (e67.den))))))) ∧ ((y65.2 ≤ (esM (anX C (cut n) 0 7) (anY C (cut n) 0 7) (anN C (cut n) 0 7))) ∧ (∀ e66 : E, ((0 ≤ e66.den ∧ e66.den < y65.2) → ((esA (anX C (cut n) 0 7) (anY C (cut n) 0 7) (anN C (cut n) 0 7) (e66.den)) = ((y65.1 (e66.den))))))))))))))))) ∧ (((esM (anX C (cut n) 0 7) (anY C (cut n) 0 7) (anN C (cut n) 0 7)) ≤ 0) → (∃ y69 : (Int → Int) × Int, ((0 ≤ y69.2 ∧ y69.2 ≤ 3) ∧ ((((anN C (cut n) 0 7) = (anN C (cut n) 0 7)) ∧ ((esM (anX C (cut n) 0 7) (anY C (cut n) 0 7) (anN C (cut n) 0 7)) = y69.2)) ∧ ((((cut n) ≤ (cut n)) ∧ (∀ e72 : E, ((0 ≤ e72.den ∧ e72.den < (cut n)) → (((C (e72.den))) = ((C (e72.den))))))) ∧ ((((anN C (cut n) 0 7) ≤ (anN C (cut n) 0 7)) ∧ (∀ e71 : E, ((0 ≤ e71.den ∧ e71.den < (anN C (cut n) 0 7)) → (((anX C (cut n) 0 7 ((e71.den))) = (anX C (cut n) 0 7 (e71.den))) ∧ ((anY C (cut n) 0 7 ((e71.den))) = (anY C (cut n) 0 7 (e71.den))))))) ∧ ((y69.2 ≤ (esM (anX C (cut n) 0 7) (anY C (cut n) 0 7) (anN C (cut n) 0 7))) ∧ (∀ e70 : E, ((0 ≤ e70.den ∧ e70.den < y69.2) → ((esA (anX C (cut n) 0 7) (anY C (cut n) 0 7) (anN C (cut n) 0 7) (e70.den)) = ((y69.1 (e70.den)))))))))))))))))))))))))))) (by kernel_rfl) ?_
  intro h1 h2
  have hcn := cut_bd h1.1
  have hC : ∀ i, 0 ≤ i → i < cut n → 0 ≤ C i ∧ C i ≤ 255 := fun i a b => h2 (.v fun _ => i) ⟨a, by show i < n; omega⟩
  have hq := anP_bd (p := 0) (most := 7) hC hcn.1 (by omega) (by omega)
  refine ⟨rfl, ⟨Int.le_refl _, fun _ => fun _ => rfl⟩, rfl, ⟨⟨rfl, rfl⟩, ⟨Int.le_refl _, fun _ => fun _ => rfl⟩⟩, ?_⟩
  intro c74
  refine ⟨rfl, ⟨Int.le_refl _, fun _ => fun _ => ⟨rfl, rfl⟩⟩, ?_⟩
  intro c75
  refine ⟨?_, ⟨⟨rfl, rfl⟩, ⟨Int.le_refl _, fun _ => fun _ => rfl⟩⟩, ?_⟩
  · refine ⟨?_, ?_⟩
    · omega
      -- 2: (oneF (.v fun _ => esM (anX C (cut n) 0 7) (anY C (cut n) 0 7) (anN C (cut n) 0 7)) (fun e => [(.int
    · exact oneF_of (fun _ => rfl)
  · intro c76
    refine ⟨?_, ?_⟩
    · intro c77
      refine ⟨?_, ?_⟩
      · refine ⟨((fun ι => 0), 0, 0, (anP C (cut n) 0 7) + 1), ?_⟩
        try dsimp only
        refine ⟨?_, ?_, ⟨Int.le_refl _, fun _ => fun _ => rfl⟩, ?_, ⟨Int.le_refl _, fun _ => fun _ => ⟨rfl, rfl⟩⟩, ?_⟩
        · omega
        · refine ⟨rfl, rfl, rfl, ?_, ?_⟩
          · omega
          · omega
        · refine ⟨rfl, ?_, ?_⟩
          · omega
          · intro c78
            omega
        · omega
      · rintro ⟨A, m, j, q⟩
        dsimp only
        intro I1
        refine ⟨?_, ?_⟩
        · intro c79
          refine ⟨?_, ?_⟩
          · intro c80
            refine ⟨⟨⟨rfl, rfl⟩, ⟨Int.le_refl _, fun _ => fun _ => rfl⟩⟩, ?_⟩
            intro c81
            refine ⟨?_, ?_⟩
            · intro c82
              refine ⟨?_, ?_⟩
              · omega
              · refine ⟨((fun ι => if ι = m then j else ((A (ι)))), m + 1, j + 1, q + 1), ?_⟩
                try dsimp only
                refine ⟨?_, ?_, ?_⟩
                · omega
                · refine ⟨?_, ⟨Int.le_refl _, fun _ => fun _ => rfl⟩, ?_, ⟨Int.le_refl _, fun _ => fun _ => ⟨rfl, rfl⟩⟩, ?_, ?_, ?_⟩
                  · refine ⟨rfl, rfl, rfl, ?_, ?_, ?_⟩
                    · refine ⟨?_, ?_⟩
                      · omega
                      · intro c83
                        omega
                    · omega
                    · intro c84
                      omega
                  · refine ⟨rfl, ?_, ?_⟩
                    · omega
                    · intro c85
                      omega
                  · omega
                  · refine ⟨Int.le_refl _, ?_⟩
                    intro e12
                    intro c86
                    omega
                  · intro e11
                    intro c87
                    omega
                · omega
            · intro c88
              refine ⟨(A, m, j + 1, q + 1), ?_⟩
              try dsimp only
              refine ⟨?_, ?_, ?_⟩
              · omega
              · refine ⟨?_, ⟨Int.le_refl _, fun _ => fun _ => rfl⟩, ?_, ⟨Int.le_refl _, fun _ => fun _ => ⟨rfl, rfl⟩⟩, ?_, ?_⟩
                · refine ⟨rfl, rfl, rfl, ?_, ?_, ?_⟩
                  · omega
                  · omega
                  · intro c89
                    omega
                · refine ⟨rfl, ?_, ?_⟩
                  · omega
                  · intro c90
                    omega
                · omega
                · intro e16
                  intro c91
                  omega
              · omega
          · intro c92
            refine ⟨?_, ?_⟩
            · intro c93
              refine ⟨⟨⟨rfl, rfl⟩, ⟨Int.le_refl _, fun _ => fun _ => rfl⟩⟩, ?_⟩
              intro c94
              refine ⟨?_, ?_⟩
              · intro c95
                refine ⟨?_, ?_⟩
                · refine ⟨?_, ?_, Int.le_refl _, fun _ => fun _ => rfl⟩
                  · refine ⟨rfl, rfl, ?_⟩
                    intro c96
                    omega
                  · refine ⟨?_, ?_, ?_⟩
                    · intro e23
                      intro c97
                      simp [selL, *]; done
                    · intro e22
                      intro c98
                      simp [selL, *]; done
                    · intro e21
                      intro c99
                      simp [selL, *]; done
                · intro c100
                  refine ⟨?_, ?_, ?_⟩
                  · omega
                  · omega
                  · refine ⟨((fun ι => if ι = 0 then (selL [(-1), 20, 3] (pk C (cut n) (q + 1) 3)) else ((A (ι)))), m), ?_⟩
                    try dsimp only
                    refine ⟨?_, ?_, ⟨Int.le_refl _, fun _ => fun _ => rfl⟩, ⟨Int.le_refl _, fun _ => fun _ => ⟨rfl, rfl⟩⟩, ?_, ?_, ?_⟩
                    · omega
                    · refine ⟨rfl, ?_⟩
                      omega
                    · omega
                    · intro e26
                      intro c101
                      omega
                    · intro e25
                      intro c102
                      omega
              · intro c103
                refine ⟨(A, m), ?_⟩
                try dsimp only
                refine ⟨?_, ?_, ⟨Int.le_refl _, fun _ => fun _ => rfl⟩, ⟨Int.le_refl _, fun _ => fun _ => ⟨rfl, rfl⟩⟩, ?_, ?_⟩
                · omega
                · refine ⟨rfl, ?_⟩
                  omega
                · omega
                · intro e30
                  intro c104
                  omega
            · intro c105
              refine ⟨(A, m), ?_⟩
              try dsimp only
              refine ⟨?_, ?_, ⟨Int.le_refl _, fun _ => fun _ => rfl⟩, ⟨Int.le_refl _, fun _ => fun _ => ⟨rfl, rfl⟩⟩, ?_, ?_⟩
              · omega
              · refine ⟨rfl, ?_⟩
                omega
              · omega
              · intro e34
                intro c106
                omega
        · intro c107
          refine ⟨?_, ?_⟩
          · intro c108
            refine ⟨⟨⟨rfl, rfl⟩, ⟨Int.le_refl _, fun _ => fun _ => rfl⟩⟩, ?_⟩
            intro c109
            refine ⟨?_, ?_⟩
            · intro c110
              refine ⟨?_, ?_⟩
              · refine ⟨?_, ?_, Int.le_refl _, fun _ => fun _ => rfl⟩
                · refine ⟨rfl, rfl, ?_⟩
                  intro c111
                  omega
                · refine ⟨?_, ?_, ?_⟩
                  · intro e41
                    intro c112
                    simp [selL, *]; done
                  · intro e40
                    intro c113
                    simp [selL, *]; done
                  · intro e39
                    intro c114
                    simp [selL, *]; done
              · intro c115
                refine ⟨?_, ?_, ?_⟩
                · omega
                · omega
                · refine ⟨((fun ι => if ι = 0 then (selL [(-1), 20, 3] (pk C (cut n) (q + 1) 3)) else ((A (ι)))), m), ?_⟩
                  try dsimp only
                  refine ⟨?_, ?_, ⟨Int.le_refl _, fun _ => fun _ => rfl⟩, ⟨Int.le_refl _, fun _ => fun _ => ⟨rfl, rfl⟩⟩, ?_, ?_, ?_⟩
                  · omega
                  · refine ⟨rfl, ?_⟩
                    omega
                  · omega
                  · intro e44
                    intro c116
                    omega
                  · intro e43
                    intro c117
                    omega
            · intro c118
              refine ⟨(A, m), ?_⟩
              try dsimp only
              refine ⟨?_, ?_, ⟨Int.le_refl _, fun _ => fun _ => rfl⟩, ⟨Int.le_refl _, fun _ => fun _ => ⟨rfl, rfl⟩⟩, ?_, ?_⟩
              · omega
              · refine ⟨rfl, ?_⟩
                omega
              · omega
              · intro e48
                intro c119
                omega
          · intro c120
            refine ⟨(A, m), ?_⟩
            try dsimp only
            refine ⟨?_, ?_, ⟨Int.le_refl _, fun _ => fun _ => rfl⟩, ⟨Int.le_refl _, fun _ => fun _ => ⟨rfl, rfl⟩⟩, ?_, ?_⟩
            · omega
            · refine ⟨rfl, ?_⟩
              omega
            · omega
            · intro e52
              intro c121
              omega
    · intro c122
      refine ⟨?_, ?_⟩
      · intro c123
        refine ⟨?_, ?_⟩
        · refine ⟨?_, Int.le_refl _, fun _ => fun _ => rfl⟩
          refine ⟨rfl, rfl, ?_⟩
          intro c124
          omega
        · intro c125
          refine ⟨?_, ?_⟩
          · intro c126
            refine ⟨?_, ?_⟩
            · refine ⟨?_, ?_, Int.le_refl _, fun _ => fun _ => rfl⟩
              · refine ⟨rfl, rfl, ?_⟩
                intro c127
                omega
              · refine ⟨?_, ?_, ?_⟩
                · intro e59
                  intro c128
                  simp [selL, *]; done
                · intro e58
                  intro c129
                  simp [selL, *]; done
                · intro e57
                  intro c130
                  simp [selL, *]; done
            · intro c131
              refine ⟨?_, ?_, ?_⟩
              · omega
              · omega
              · refine ⟨((fun ι => if ι = 0 then ((selL [(-1), 20, 3] (pk C (cut n) (((anP C (cut n) 0 7) + 1) + 1) 3))) else (esA (anX C (cut n) 0 7) (anY C (cut n) 0 7) (anN C (cut n) 0 7) (ι))), esM (anX C (cut n) 0 7) (anY C (cut n) 0 7) (anN C (cut n) 0 7)), ?_⟩
                try dsimp only
                refine ⟨?_, ?_, ⟨Int.le_refl _, fun _ => fun _ => rfl⟩, ⟨Int.le_refl _, fun _ => fun _ => ⟨rfl, rfl⟩⟩, ?_, ?_, ?_⟩
                · omega
                · refine ⟨rfl, ?_⟩
                  omega
                · omega
                · intro e62
                  intro c132
                  omega
                · intro e61
                  intro c133
                  omega
          · intro c134
            refine ⟨((esA (anX C (cut n) 0 7) (anY C (cut n) 0 7) (anN C (cut n) 0 7)), esM (anX C (cut n) 0 7) (anY C (cut n) 0 7) (anN C (cut n) 0 7)), ?_⟩
            try dsimp only
            refine ⟨?_, ?_, ⟨Int.le_refl _, fun _ => fun _ => rfl⟩, ⟨Int.le_refl _, fun _ => fun _ => ⟨rfl, rfl⟩⟩, ?_, ?_⟩
            · omega
            · refine ⟨rfl, ?_⟩
              omega
            · omega
            · intro e66
              intro c135
              omega
      · intro c136
        refine ⟨((esA (anX C (cut n) 0 7) (anY C (cut n) 0 7) (anN C (cut n) 0 7)), esM (anX C (cut n) 0 7) (anY C (cut n) 0 7) (anN C (cut n) 0 7)), ?_⟩
        try dsimp only
        refine ⟨?_, ?_, ⟨Int.le_refl _, fun _ => fun _ => rfl⟩, ⟨Int.le_refl _, fun _ => fun _ => ⟨rfl, rfl⟩⟩, ?_, ?_⟩
        · omega
        · refine ⟨rfl, ?_⟩
          omega
        · omega
        · intro e70
          intro c137
          omega
def c_someSupport (C : Int → Int) (n : Int) : CnX Try.prog := ⟨_, _, _, (Int → Int) × Int, (fun x => 0 ≤ x.2 ∧ x.2 ≤ 3), (fun x => (.tup [(.sl 1 2 (.lit 0) (.v fun _ => anN C (cut n) 0 7) 64), (.sl 2 1 (.lit 0) (.v fun _ => x.2) 3)])), (fun x => [some ⟨5, 1, false, (.sym (.v fun _ => cut n) fun e => [(.int .u8 (.v fun _ => (C (e.den))) 0 255)])⟩, some ⟨50, 2, true, (.sym (.v fun _ => anN C (cut n) 0 7) fun e => [(.int .i64 (.v fun _ => anX C (cut n) 0 7 (e.den)) (-9223372036854775808) 9223372036854775807), (.int .i64 (.v fun _ => anY C (cut n) 0 7 (e.den)) (-9223372036854775808) 9223372036854775807)])⟩, some ⟨3, 1, true, (.sym (.v fun _ => x.2) fun e => [(.int .i64 (.v fun _ => (x.1 (e.den))) (-9223372036854775808) 9223372036854775807)])⟩]), someSupport C n⟩
end Go.Proofs.Ytcfkpdjbjfnnmaa
