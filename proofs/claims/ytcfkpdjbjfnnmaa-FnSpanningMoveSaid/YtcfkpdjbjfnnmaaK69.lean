/- Spanning trees: contracts. -/
import Derived.Test.YtcfkpdjbjfnnmaaK68
set_option linter.unusedSimpArgs false
set_option linter.unusedVariables false
set_option maxRecDepth 100000
namespace Go.Proofs.Ytcfkpdjbjfnnmaa
open Go.Sym
theorem s_spanning (X : Int → Int) (Y : Int → Int) (n : Int) : RunsTo Try.prog 96 [(.sl 0 2 (.lit 0) (.v fun _ => n) 20)] [some ⟨50, 2, true, (.sym (.v fun _ => n) fun e => [(.int .i64 (.v fun _ => (X (e.den))) (-1000) 1000), (.int .i64 (.v fun _ => (Y (e.den))) (-1000) 1000)])⟩] (.sl 1 2 (.lit 0) (.v fun _ => stN n) 20) [some ⟨50, 2, true, (.sym (.v fun _ => n) fun e => [(.int .i64 (.v fun _ => (X (e.den))) (-1000) 1000), (.int .i64 (.v fun _ => (Y (e.den))) (-1000) 1000)])⟩, some ⟨58, 2, true, (.sym (.v fun _ => stN n) fun e => [(.int .i64 (.v fun _ => spU X Y n e.den) 0 20), (.int .i64 (.v fun _ => spV X Y n e.den) 0 20)])⟩] := by
  refine RunsTo.go env Try.func96 rfl Try.call96 rfl rfl (fun _ _ => (.loop [] [0, 1, 2] (Int) (fun x1 => ⟨spl 114 0 [(0, (.sl 0 2 (.lit 0) (.v fun _ => n) 20)), (2, (.raw (.slice none 0 0))), (3, (.sl 1 2 (.lit 0) (.lit 0) 0)), (4, (.sl 2 1 (.lit 0) (.v fun _ => x1) 20)), (5, (.int .i64 (.v fun _ => x1) 0 20))], [some ⟨50, 2, true, (.sym (.v fun _ => n) fun e => [(.int .i64 (.v fun _ => (X (e.den))) (-1000) 1000), (.int .i64 (.v fun _ => (Y (e.den))) (-1000) 1000)])⟩, some ⟨58, 2, true, (.lit [])⟩, some ⟨3, 1, true, (.sym (.v fun _ => x1) fun e => [(.int .i64 (.v fun _ => (e.den)) 0 20)])⟩], 1⟩) (fun x1 => 0 ≤ x1 ∧ x1 ≤ n) (fun x1 => (n - x1).toNat) fun x1 => (.ite (.need (.next [0, 1, 2])) (.out (.loop [] [0, 1, 2] (Int) (fun x8 => ⟨spl 114 0 [(0, (.sl 0 2 (.lit 0) (.v fun _ => n) 20)), (2, (.raw (.slice none 0 0))), (3, (.sl 1 2 (.lit 0) (.v fun _ => x8) 20)), (4, (.sl 2 1 (.lit 0) (.v fun _ => n) 20))], [some ⟨50, 2, true, (.sym (.v fun _ => n) fun e => [(.int .i64 (.v fun _ => (X (e.den))) (-1000) 1000), (.int .i64 (.v fun _ => (Y (e.den))) (-1000) 1000)])⟩, some ⟨58, 2, true, (.sym (.v fun _ => x8) fun e => [(.int .i64 (.v fun _ => spU X Y n (e.den)) 0 20), (.int .i64 (.v fun _ => spV X Y n (e.den)) 0 20)])⟩, some ⟨3, 1, true, (.sym (.v fun _ => n) fun e => [(.int .i64 (.v fun _ => gG X Y n x8 (e.den)) 0 20)])⟩], 1⟩) (fun x8 => 0 ≤ x8 ∧ (x8 + 1 ≤ n ∨ x8 = 0)) (fun x8 => (n - x8).toNat) fun x8 => (.ite (.loop [] [0, 1, 2, 3] (Int) (fun x12 => ⟨spl 114 0 [(0, (.sl 0 2 (.lit 0) (.v fun _ => n) 20)), (2, (.raw (.slice none 0 0))), (3, (.sl 1 2 (.lit 0) (.v fun _ => x8) 20)), (4, (.sl 2 1 (.lit 0) (.v fun _ => n) 20)), (6, (.ptr 3 2 (.lit 0) 0)), (7, (.int .i64 (.v fun _ => x12) 0 20)), (23, (.sl 1 2 (.lit 0) (.v fun _ => x8) 20)), (24, (.int .i64 (.v fun _ => x8) 0 20)), (25, (.int .i64 (.add (.v fun _ => x8) (.lit 1)) 1 21)), (26, (.sl 0 2 (.lit 0) (.v fun _ => n) 20)), (27, (.int .i64 (.v fun _ => n) 0 20)), (28, (.bool (.lt (.add (.v fun _ => x8) (.lit 1)) (.v fun _ => n)))), (29, (.agg [(.int .i64 (.lit (-1)) (-1) (-1)), (.int .i64 (.lit 0) 0 0)]))], [some ⟨50, 2, true, (.sym (.v fun _ => n) fun e => [(.int .i64 (.v fun _ => (X (e.den))) (-1000) 1000), (.int .i64 (.v fun _ => (Y (e.den))) (-1000) 1000)])⟩, some ⟨58, 2, true, (.sym (.v fun _ => x8) fun e => [(.int .i64 (.v fun _ => spU X Y n (e.den)) 0 20), (.int .i64 (.v fun _ => spV X Y n (e.den)) 0 20)])⟩, some ⟨3, 1, true, (.sym (.v fun _ => n) fun e => [(.int .i64 (.v fun _ => gG X Y n x8 (e.den)) 0 20)])⟩, some ⟨58, 2, true, (.lit [[(.int .i64 (.v fun _ => (bq X Y n x8 x12).1) (-1) 20), (.int .i64 (.v fun _ => (bq X Y n x8 x12).2) 0 20)]])⟩], 1⟩) (fun x12 => (0 ≤ x8 ∧ x8 + 1 < n) ∧ 0 ≤ x12 ∧ x12 ≤ n) (fun x12 => (n - x12).toNat) fun x12 => (.ite (.loop [] [0, 1, 2, 3] (Int) (fun x17 => ⟨spl 114 0 [(0, (.sl 0 2 (.lit 0) (.v fun _ => n) 20)), (2, (.raw (.slice none 0 0))), (3, (.sl 1 2 (.lit 0) (.v fun _ => x8) 20)), (4, (.sl 2 1 (.lit 0) (.v fun _ => n) 20)), (6, (.ptr 3 2 (.lit 0) 0)), (7, (.int .i64 (.v fun _ => x12) 0 20)), (8, (.int .i64 (.v fun _ => x17) 1 20)), (23, (.sl 1 2 (.lit 0) (.v fun _ => x8) 20)), (24, (.int .i64 (.v fun _ => x8) 0 20)), (25, (.int .i64 (.add (.v fun _ => x8) (.lit 1)) 1 21)), (26, (.sl 0 2 (.lit 0) (.v fun _ => n) 20)), (27, (.int .i64 (.v fun _ => n) 0 20)), (28, (.bool (.lt (.add (.v fun _ => x8) (.lit 1)) (.v fun _ => n)))), (29, (.agg [(.int .i64 (.lit (-1)) (-1) (-1)), (.int .i64 (.lit 0) 0 0)])), (30, (.int .i64 (.v fun _ => x12) 0 20)), (31, (.sl 0 2 (.lit 0) (.v fun _ => n) 20)), (32, (.int .i64 (.v fun _ => n) 0 20)), (33, (.bool (.lt (.v fun _ => x12) (.v fun _ => n)))), (36, (.int .i64 (.v fun _ => x12) 0 20)), (37, (.int .i64 (.add (.v fun _ => x12) (.lit 1)) 1 21))], [some ⟨50, 2, true, (.sym (.v fun _ => n) fun e => [(.int .i64 (.v fun _ => (X (e.den))) (-1000) 1000), (.int .i64 (.v fun _ => (Y (e.den))) (-1000) 1000)])⟩, some ⟨58, 2, true, (.sym (.v fun _ => x8) fun e => [(.int .i64 (.v fun _ => spU X Y n (e.den)) 0 20), (.int .i64 (.v fun _ => spV X Y n (e.den)) 0 20)])⟩, some ⟨3, 1, true, (.sym (.v fun _ => n) fun e => [(.int .i64 (.v fun _ => gG X Y n x8 (e.den)) 0 20)])⟩, some ⟨58, 2, true, (.lit [[(.int .i64 (.v fun _ => (br X Y n x8 x12 x17).1) (-1) 20), (.int .i64 (.v fun _ => (br X Y n x8 x12 x17).2) 0 20)]])⟩], 1⟩) (fun x17 => ((0 ≤ x8 ∧ x8 + 1 < n) ∧ 0 ≤ x12 ∧ x12 < n) ∧ x12 + 1 ≤ x17 ∧ x17 ≤ n) (fun x17 => (n - x17).toNat) fun x17 => (.ite (.need (.need (.need (.need (.ite (.ite (.next [0, 1, 2, 3]) (.need (.need (.need (.need (.call (c_s_manhattan ((X (x12))) ((Y (x12))) ((X (x17))) ((Y (x17)))) (.need (.need (.need (.need (.callF (c_s_manhattan ((X ((br X Y n x8 x12 x17).1))) ((Y ((br X Y n x8 x12 x17).1))) ((X ((br X Y n x8 x12 x17).2))) ((Y ((br X Y n x8 x12 x17).2)))) (.ite (.next [0, 1, 2, 3]) (.next [0, 1, 2, 3]))))))))))))) (.next [0, 1, 2, 3])))))) (.out (.next [0, 1, 2, 3])))) (.out (.need (.need (.need (.loop [] [0, 2, 3, 4, 1] (Int) (fun x42 => ⟨spl 114 0 [(0, (.sl 0 2 (.lit 0) (.v fun _ => n) 20)), (2, (.raw (.slice none 0 0))), (3, (.sl 4 2 (.lit 0) (.v fun _ => x8 + 1) 20)), (4, (.sl 1 1 (.lit 0) (.v fun _ => n) 20)), (6, (.ptr 2 2 (.lit 0) 0)), (7, (.int .i64 (.v fun _ => x12) 0 20)), (9, (.int .i64 (.v fun _ => gG X Y n x8 (spV X Y n x8)) 0 20)), (10, (.int .i64 (.v fun _ => x42) 0 20)), (24, (.int .i64 (.v fun _ => x8) 0 20)), (25, (.int .i64 (.add (.v fun _ => x8) (.lit 1)) 1 21)), (26, (.sl 0 2 (.lit 0) (.v fun _ => n) 20)), (27, (.int .i64 (.v fun _ => n) 0 20)), (28, (.bool (.lt (.add (.v fun _ => x8) (.lit 1)) (.v fun _ => n)))), (29, (.agg [(.int .i64 (.lit (-1)) (-1) (-1)), (.int .i64 (.lit 0) 0 0)])), (30, (.int .i64 (.v fun _ => x12) 0 20)), (31, (.sl 0 2 (.lit 0) (.v fun _ => n) 20)), (32, (.int .i64 (.v fun _ => n) 0 20)), (33, (.bool (.lt (.v fun _ => x12) (.v fun _ => n)))), (85, (.agg [(.int .i64 (.v fun _ => (bq X Y n x8 x12).1) (-1) 20), (.int .i64 (.v fun _ => (bq X Y n x8 x12).2) 0 20)])), (86, (.sl 3 2 (.lit 0) (.lit 1) 1)), (87, (.sl 4 2 (.lit 0) (.add (.v fun _ => x8) (.lit 1)) 21)), (88, (.sl 1 1 (.lit 0) (.v fun _ => n) 20)), (89, (.ptr 2 2 (.lit 0) 1)), (90, (.int .i64 (.v fun _ => (bq X Y n x8 x12).2) 0 20)), (91, (.ptr 1 1 (.v fun _ => (bq X Y n x8 x12).2) 0)), (92, (.int .i64 (.v fun _ => gG X Y n x8 ((bq X Y n x8 x12).2)) 0 20))], [some ⟨50, 2, true, (.sym (.v fun _ => n) fun e => [(.int .i64 (.v fun _ => (X (e.den))) (-1000) 1000), (.int .i64 (.v fun _ => (Y (e.den))) (-1000) 1000)])⟩, some ⟨3, 1, true, (.sym (.v fun _ => n) fun e => [(.int .i64 (.v fun _ => gM X Y n x8 x42 (e.den)) 0 20)])⟩, some ⟨58, 2, true, (.lit [[(.int .i64 (.v fun _ => spU X Y n x8) 0 20), (.int .i64 (.v fun _ => spV X Y n x8) 0 20)]])⟩, some ⟨58, 2, true, (.lit [[(.int .i64 (.v fun _ => (bq X Y n x8 x12).1) (-1) 20), (.int .i64 (.v fun _ => (bq X Y n x8 x12).2) 0 20)]])⟩, some ⟨58, 2, true, (.sym (.v fun _ => x8 + 1) fun e => [(.int .i64 (.v fun _ => spU X Y n (e.den)) 0 20), (.int .i64 (.v fun _ => spV X Y n (e.den)) 0 20)])⟩], 1⟩) (fun x42 => (0 ≤ x8 ∧ x8 + 1 < n) ∧ 0 ≤ x42 ∧ x42 ≤ n) (fun x42 => (n - x42).toNat) fun x42 => (.ite (.need (.need (.ite (.need (.need (.need (.need (.next [0, 1, 2, 3, 4]))))) (.next [0, 1, 2, 3, 4])))) (.out (.next [0, 4, 1])))))))))) (.out .ret))))))) (G := (0 ≤ n ∧ n ≤ 20) → (∀ e63 : E, ((0 ≤ e63.den ∧ e63.den < n) → (((-1000) ≤ ((X (e63.den))) ∧ ((X (e63.den))) ≤ 1000) ∧ ((-1000) ≤ ((Y (e63.den))) ∧ ((Y (e63.den))) ≤ 1000)))) → ((∃ y2 : Int, ((0 ≤ y2 ∧ y2 ≤ n) ∧ (((n = n) ∧ ((((.slice none 0 0) : Value) = (.slice none 0 0)) ∧ (((0 : Int) = y2) ∧ ((0 : Int) = y2)))) ∧ (((n ≤ n) ∧ (∀ e3 : E, ((0 ≤ e3.den ∧ e3.den < n) → ((((X (e3.den))) = ((X (e3.den)))) ∧ (((Y (e3.den))) = ((Y (e3.den)))))))) ∧ (y2 = 0))))) ∧ (∀ x1 : Int, ((0 ≤ x1 ∧ x1 ≤ n) → (((x1 < n) → ((x1 = x1) ∧ (∃ y4 : Int, ((0 ≤ y4 ∧ y4 ≤ n) ∧ ((((n = n) ∧ ((((.slice none 0 0) : Value) = (.slice none 0 0)) ∧ ((((x1 + 1) = y4) ∧ (((x1 + 1) ≤ 21) → (y4 ≤ 20))) ∧ (((x1 + 1) = y4) ∧ ((1 ≤ (x1 + 1) ∧ (x1 + 1) ≤ 21) → (0 ≤ y4 ∧ y4 ≤ 20)))))) ∧ (((n ≤ n) ∧ (∀ e7 : E, ((0 ≤ e7.den ∧ e7.den < n) → ((((X (e7.den))) = ((X (e7.den)))) ∧ (((Y (e7.den))) = ((Y (e7.den)))))))) ∧ (((0 : Int) ≤ x1 ∧ y4 = x1 + 1) ∧ (((x1 ≤ x1) ∧ (∀ e6 : E, ((0 ≤ e6.den ∧ e6.den < x1) → ((e6.den) = (e6.den))))) ∧ (∀ e5 : E, ((e5.den = x1) → (x1 = (e5.den)))))))) ∧ ((n - y4).toNat < (n - x1).toNat)))))) ∧ ((n ≤ x1) → ((∃ y9 : Int, ((0 ≤ y9 ∧ (y9 + 1 ≤ n ∨ y9 = 0)) ∧ (((n = n) ∧ ((((.slice none 0 0) : Value) = (.slice none 0 0)) ∧ (((0 : Int) = y9) ∧ (x1 = n)))) ∧ (((n ≤ n) ∧ (∀ e11 : E, ((0 ≤ e11.den ∧ e11.den < n) → ((((X (e11.den))) = ((X (e11.den)))) ∧ (((Y (e11.den))) = ((Y (e11.den)))))))) ∧ ((y9 = 0) ∧ ((n ≤ x1) ∧ (∀ e10 : E, ((0 ≤ e10.den ∧ e10.den < n) → ((e10.den) = (gG X Y n y9 (e10.den))))))))))) ∧ (∀ x8 : Int, ((0 ≤ x8 ∧ (x8 + 1 ≤ n ∨ x8 = 0)) → ((((x8 + 1) < n) → ((∃ y13 : Int, (((0 ≤ x8 ∧ x8 + 1 < n) ∧ 0 ≤ y13 ∧ y13 ≤ n) ∧ (((n = n) ∧ ((((.slice none 0 0) : Value) = (.slice none 0 0)) ∧ ((x8 = x8) ∧ ((n = n) ∧ (((0 : Int) = y13) ∧ ((x8 = x8) ∧ ((x8 = x8) ∧ (((x8 + 1) = (x8 + 1)) ∧ ((n = n) ∧ ((n = n) ∧ (((x8 + 1) < n) ↔ ((x8 + 1) < n)))))))))))) ∧ (((n ≤ n) ∧ (∀ e16 : E, ((0 ≤ e16.den ∧ e16.den < n) → ((((X (e16.den))) = ((X (e16.den)))) ∧ (((Y (e16.den))) = ((Y (e16.den)))))))) ∧ (((x8 ≤ x8) ∧ (∀ e15 : E, ((0 ≤ e15.den ∧ e15.den < x8) → (((spU X Y n (e15.den)) = (spU X Y n (e15.den))) ∧ ((spV X Y n (e15.den)) = (spV X Y n (e15.den))))))) ∧ (((n ≤ n) ∧ (∀ e14 : E, ((0 ≤ e14.den ∧ e14.den < n) → ((gG X Y n x8 (e14.den)) = (gG X Y n x8 (e14.den)))))) ∧ ((((-1) : Int) = ((bq X Y n x8 y13).1)) ∧ ((0 : Int) = ((bq X Y n x8 y13).2))))))))) ∧ (∀ x12 : Int, (((0 ≤ x8 ∧ x8 + 1 < n) ∧ 0 ≤ x12 ∧ x12 ≤ n) → (((x12 < n) → ((∃ y18 : Int, ((((0 ≤ x8 ∧ x8 + 1 < n) ∧ 0 ≤ x12 ∧ x12 < n) ∧ x12 + 1 ≤ y18 ∧ y18 ≤ n) ∧ (((n = n) ∧ ((((.slice none 0 0) : Value) = (.slice none 0 0)) ∧ ((x8 = x8) ∧ ((n = n) ∧ ((x12 = x12) ∧ ((((x12 + 1) = y18) ∧ ((1 ≤ (x12 + 1) ∧ (x12 + 1) ≤ 21) → (1 ≤ y18 ∧ y18 ≤ 20))) ∧ ((x8 = x8) ∧ ((x8 = x8) ∧ (((x8 + 1) = (x8 + 1)) ∧ ((n = n) ∧ ((n = n) ∧ ((((x8 + 1) < n) ↔ ((x8 + 1) < n)) ∧ ((x12 = x12) ∧ ((n = n) ∧ ((n = n) ∧ (((x12 < n) ↔ (x12 < n)) ∧ ((x12 = x12) ∧ ((x12 + 1) = (x12 + 1))))))))))))))))))) ∧ (((n ≤ n) ∧ (∀ e21 : E, ((0 ≤ e21.den ∧ e21.den < n) → ((((X (e21.den))) = ((X (e21.den)))) ∧ (((Y (e21.den))) = ((Y (e21.den)))))))) ∧ (((x8 ≤ x8) ∧ (∀ e20 : E, ((0 ≤ e20.den ∧ e20.den < x8) → (((spU X Y n (e20.den)) = (spU X Y n (e20.den))) ∧ ((spV X Y n (e20.den)) = (spV X Y n (e20.den))))))) ∧ (((n ≤ n) ∧ (∀ e19 : E, ((0 ≤ e19.den ∧ e19.den < n) → ((gG X Y n x8 (e19.den)) = (gG X Y n x8 (e19.den)))))) ∧ ((((bq X Y n x8 x12).1) = ((br X Y n x8 x12 y18).1)) ∧ (((bq X Y n x8 x12).2) = ((br X Y n x8 x12 y18).2))))))))) ∧ (∀ x17 : Int, ((((0 ≤ x8 ∧ x8 + 1 < n) ∧ 0 ≤ x12 ∧ x12 < n) ∧ x12 + 1 ≤ x17 ∧ x17 ≤ n) → (((x17 < n) → ((((0 ≤ x12) ∧ (x12 < n))) ∧ ((x12 < n) ∧ ((((0 ≤ x17) ∧ (x17 < n))) ∧ ((x17 < n) ∧ ((((gG X Y n x8 (x12)) ≠ (gG X Y n x8 (x17))) → (((((br X Y n x8 x12 x17).1) < 0) → (∃ y22 : Int, ((((0 ≤ x8 ∧ x8 + 1 < n) ∧ 0 ≤ x12 ∧ x12 < n) ∧ x12 + 1 ≤ y22 ∧ y22 ≤ n) ∧ ((((n = n) ∧ ((((.slice none 0 0) : Value) = (.slice none 0 0)) ∧ ((x8 = x8) ∧ ((n = n) ∧ ((x12 = x12) ∧ ((((x17 + 1) = y22) ∧ ((2 ≤ (x17 + 1) ∧ (x17 + 1) ≤ 21) → (1 ≤ y22 ∧ y22 ≤ 20))) ∧ ((x8 = x8) ∧ ((x8 = x8) ∧ (((x8 + 1) = (x8 + 1)) ∧ ((n = n) ∧ ((n = n) ∧ ((((x8 + 1) < n) ↔ ((x8 + 1) < n)) ∧ ((x12 = x12) ∧ ((n = n) ∧ ((n = n) ∧ (((x12 < n) ↔ (x12 < n)) ∧ ((x12 = x12) ∧ ((x12 + 1) = (x12 + 1))))))))))))))))))) ∧ (((n ≤ n) ∧ (∀ e25 : E, ((0 ≤ e25.den ∧ e25.den < n) → ((((X (e25.den))) = ((X (e25.den)))) ∧ (((Y (e25.den))) = ((Y (e25.den)))))))) ∧ (((x8 ≤ x8) ∧ (∀ e24 : E, ((0 ≤ e24.den ∧ e24.den < x8) → (((spU X Y n (e24.den)) = (spU X Y n (e24.den))) ∧ ((spV X Y n (e24.den)) = (spV X Y n (e24.den))))))) ∧ (((n ≤ n) ∧ (∀ e23 : E, ((0 ≤ e23.den ∧ e23.den < n) → ((gG X Y n x8 (e23.den)) = (gG X Y n x8 (e23.den)))))) ∧ ((x12 = ((br X Y n x8 x12 y22).1)) ∧ (x17 = ((br X Y n x8 x12 y22).2))))))) ∧ ((n - y22).toNat < (n - x17).toNat))))) ∧ ((0 ≤ ((br X Y n x8 x12 x17).1)) → ((((0 ≤ x12) ∧ (x12 < n))) ∧ ((x12 < n) ∧ ((((0 ≤ x17) ∧ (x17 < n))) ∧ ((x17 < n) ∧ ((((((X (x12))) = ((X (x12)))) ∧ (((Y (x12))) = ((Y (x12))))) ∧ ((((X (x17))) = ((X (x17)))) ∧ (((Y (x17))) = ((Y (x17)))))) ∧ ((((0 ≤ ((br X Y n x8 x12 x17).1)) ∧ (((br X Y n x8 x12 x17).1) < n))) ∧ ((((br X Y n x8 x12 x17).1) < n) ∧ ((((0 ≤ ((br X Y n x8 x12 x17).2)) ∧ (((br X Y n x8 x12 x17).2) < n))) ∧ ((((br X Y n x8 x12 x17).2) < n) ∧ ((((((X ((br X Y n x8 x12 x17).1))) = ((X ((br X Y n x8 x12 x17).1)))) ∧ (((Y ((br X Y n x8 x12 x17).1))) = ((Y ((br X Y n x8 x12 x17).1))))) ∧ ((((X ((br X Y n x8 x12 x17).2))) = ((X ((br X Y n x8 x12 x17).2)))) ∧ (((Y ((br X Y n x8 x12 x17).2))) = ((Y ((br X Y n x8 x12 x17).2)))))) ∧ ((0 ≤ (mht ((X ((br X Y n x8 x12 x17).1))) ((Y ((br X Y n x8 x12 x17).1))) ((X ((br X Y n x8 x12 x17).2))) ((Y ((br X Y n x8 x12 x17).2)))) ∧ (mht ((X ((br X Y n x8 x12 x17).1))) ((Y ((br X Y n x8 x12 x17).1))) ((X ((br X Y n x8 x12 x17).2))) ((Y ((br X Y n x8 x12 x17).2)))) ≤ 4000) → ((((mht ((X (x12))) ((Y (x12))) ((X (x17))) ((Y (x17)))) < (mht ((X ((br X Y n x8 x12 x17).1))) ((Y ((br X Y n x8 x12 x17).1))) ((X ((br X Y n x8 x12 x17).2))) ((Y ((br X Y n x8 x12 x17).2))))) → (∃ y26 : Int, ((((0 ≤ x8 ∧ x8 + 1 < n) ∧ 0 ≤ x12 ∧ x12 < n) ∧ x12 + 1 ≤ y26 ∧ y26 ≤ n) ∧ ((((n = n) ∧ ((((.slice none 0 0) : Value) = (.slice none 0 0)) ∧ ((x8 = x8) ∧ ((n = n) ∧ ((x12 = x12) ∧ ((((x17 + 1) = y26) ∧ ((2 ≤ (x17 + 1) ∧ (x17 + 1) ≤ 21) → (1 ≤ y26 ∧ y26 ≤ 20))) ∧ ((x8 = x8) ∧ ((x8 = x8) ∧ (((x8 + 1) = (x8 + 1)) ∧ ((n = n) ∧ ((n = n) ∧ ((((x8 + 1) < n) ↔ ((x8 + 1) < n)) ∧ ((x12 = x12) ∧ ((n = n) ∧ ((n = n) ∧ (((x12 < n) ↔ (x12 < n)) ∧ ((x12 = x12) ∧ ((x12 + 1) = (x12 + 1))))))))))))))))))) ∧ (((n ≤ n) ∧ (∀ e29 : E, ((0 ≤ e29.den ∧ e29.den < n) → ((((X (e29.den))) = ((X (e29.den)))) ∧ (((Y (e29.den))) = ((Y (e29.den)))))))) ∧ (((x8 ≤ x8) ∧ (∀ e28 : E, ((0 ≤ e28.den ∧ e28.den < x8) → (((spU X Y n (e28.den)) = (spU X Y n (e28.den))) ∧ ((spV X Y n (e28.den)) = (spV X Y n (e28.den))))))) ∧ (((n ≤ n) ∧ (∀ e27 : E, ((0 ≤ e27.den ∧ e27.den < n) → ((gG X Y n x8 (e27.den)) = (gG X Y n x8 (e27.den)))))) ∧ ((x12 = ((br X Y n x8 x12 y26).1)) ∧ (x17 = ((br X Y n x8 x12 y26).2))))))) ∧ ((n - y26).toNat < (n - x17).toNat))))) ∧ (((mht ((X ((br X Y n x8 x12 x17).1))) ((Y ((br X Y n x8 x12 x17).1))) ((X ((br X Y n x8 x12 x17).2))) ((Y ((br X Y n x8 x12 x17).2)))) ≤ (mht ((X (x12))) ((Y (x12))) ((X (x17))) ((Y (x17))))) → (∃ y30 : Int, ((((0 ≤ x8 ∧ x8 + 1 < n) ∧ 0 ≤ x12 ∧ x12 < n) ∧ x12 + 1 ≤ y30 ∧ y30 ≤ n) ∧ ((((n = n) ∧ ((((.slice none 0 0) : Value) = (.slice none 0 0)) ∧ ((x8 = x8) ∧ ((n = n) ∧ ((x12 = x12) ∧ ((((x17 + 1) = y30) ∧ ((2 ≤ (x17 + 1) ∧ (x17 + 1) ≤ 21) → (1 ≤ y30 ∧ y30 ≤ 20))) ∧ ((x8 = x8) ∧ ((x8 = x8) ∧ (((x8 + 1) = (x8 + 1)) ∧ ((n = n) ∧ ((n = n) ∧ ((((x8 + 1) < n) ↔ ((x8 + 1) < n)) ∧ ((x12 = x12) ∧ ((n = n) ∧ ((n = n) ∧ (((x12 < n) ↔ (x12 < n)) ∧ ((x12 = x12) ∧ ((x12 + 1) = (x12 + 1))))))))))))))))))) ∧ (((n ≤ n) ∧ (∀ e33 : E, ((0 ≤ e33.den ∧ e33.den < n) → ((((X (e33.den))) = ((X (e33.den)))) ∧ (((Y (e33.den))) = ((Y (e33.den)))))))) ∧ (((x8 ≤ x8) ∧ (∀ e32 : E, ((0 ≤ e32.den ∧ e32.den < x8) → (((spU X Y n (e32.den)) = (spU X Y n (e32.den))) ∧ ((spV X Y n (e32.den)) = (spV X Y n (e32.den))))))) ∧ (((n ≤ n) ∧ (∀ e31 : E, ((0 ≤ e31.den ∧ e31.den < n) → ((gG X Y n x8 (e31.den)) = (gG X Y n x8 (e31.den)))))) ∧ ((((br X Y n x8 x12 x17).1) = ((br X Y n x8 x12 y30).1)) ∧ (((br X Y n x8 x12 x17).2) = ((br X Y n x8 x12 y30).2))))))) ∧ ((n - y30).toNat < (n - x17).toNat)))))))))))))))))))) ∧ (((gG X Y n x8 (x12)) = (gG X Y n x8 (x17))) → (∃ y34 : Int, ((((0 ≤ x8 ∧ x8 + 1 < n) ∧ 0 ≤ x12 ∧ x12 < n) ∧ x12 + 1 ≤ y34 ∧ y34 ≤ n) ∧ ((((n = n) ∧ ((((.slice none 0 0) : Value) = (.slice none 0 0)) ∧ ((x8 = x8) ∧ ((n = n) ∧ ((x12 = x12) ∧ ((((x17 + 1) = y34) ∧ ((2 ≤ (x17 + 1) ∧ (x17 + 1) ≤ 21) → (1 ≤ y34 ∧ y34 ≤ 20))) ∧ ((x8 = x8) ∧ ((x8 = x8) ∧ (((x8 + 1) = (x8 + 1)) ∧ ((n = n) ∧ ((n = n) ∧ ((((x8 + 1) < n) ↔ ((x8 + 1) < n)) ∧ ((x12 = x12) ∧ ((n = n) ∧ ((n = n) ∧ (((x12 < n) ↔ (x12 < n)) ∧ ((x12 = x12) ∧ ((x12 + 1) = (x12 + 1))))))))))))))))))) ∧ (((n ≤ n) ∧ (∀ e37 : E, ((0 ≤ e37.den ∧ e37.den < n) → ((((X (e37.den))) = ((X (e37.den)))) ∧ (((Y (e37.den))) = ((Y (e37.den)))))))) ∧ (((x8 ≤ x8) ∧ (∀ e36 : E, ((0 ≤ e36.den ∧ e36.den < x8) → (((spU X Y n (e36.den)) = (spU X Y n (e36.den))) ∧ ((spV X Y n (e36.den)) = (spV X Y n (e36.den))))))) ∧ (((n ≤ n) ∧ (∀ e35 : E, ((0 ≤ e35.den ∧ e35.den < n) → ((gG X Y n x8 (e35.den)) = (gG X Y n x8 (e35.den)))))) ∧ ((((br X Y n x8 x12 x17).1) = ((br X Y n x8 x12 y34).1)) ∧ (((br X Y n x8 x12 x17).2) = ((br X Y n x8 x12 y34).2))))))) ∧ ((n - y34).toNat < (n - x17).toNat))))))))))) ∧ ((n ≤ x17) → (∃ y38 : Int, (((0 ≤ x8 ∧ x8 + 1 < n) ∧ 0 ≤ y38 ∧ y38 ≤ n) ∧ ((((n = n) ∧ ((((.slice none 0 0) : Value) = (.slice none 0 0)) ∧ ((x8 = x8) ∧ ((n = n) ∧ ((((x12 + 1) = y38) ∧ ((1 ≤ (x12 + 1) ∧ (x12 + 1) ≤ 21) → (0 ≤ y38 ∧ y38 ≤ 20))) ∧ ((x8 = x8) ∧ ((x8 = x8) ∧ (((x8 + 1) = (x8 + 1)) ∧ ((n = n) ∧ ((n = n) ∧ (((x8 + 1) < n) ↔ ((x8 + 1) < n)))))))))))) ∧ (((n ≤ n) ∧ (∀ e41 : E, ((0 ≤ e41.den ∧ e41.den < n) → ((((X (e41.den))) = ((X (e41.den)))) ∧ (((Y (e41.den))) = ((Y (e41.den)))))))) ∧ (((x8 ≤ x8) ∧ (∀ e40 : E, ((0 ≤ e40.den ∧ e40.den < x8) → (((spU X Y n (e40.den)) = (spU X Y n (e40.den))) ∧ ((spV X Y n (e40.den)) = (spV X Y n (e40.den))))))) ∧ (((n ≤ n) ∧ (∀ e39 : E, ((0 ≤ e39.den ∧ e39.den < n) → ((gG X Y n x8 (e39.den)) = (gG X Y n x8 (e39.den)))))) ∧ ((((br X Y n x8 x12 x17).1) = ((bq X Y n x8 y38).1)) ∧ (((br X Y n x8 x12 x17).2) = ((bq X Y n x8 y38).2))))))) ∧ ((n - y38).toNat < (n - x12).toNat)))))))))) ∧ ((n ≤ x12) → ((x8 = x8) ∧ ((((0 ≤ ((bq X Y n x8 x12).2)) ∧ (((bq X Y n x8 x12).2) < n))) ∧ ((((bq X Y n x8 x12).2) < n) ∧ ((∃ y43 : Int, (((0 ≤ x8 ∧ x8 + 1 < n) ∧ 0 ≤ y43 ∧ y43 ≤ n) ∧ (((n = n) ∧ ((((.slice none 0 0) : Value) = (.slice none 0 0)) ∧ ((((x8 + 1) = (x8 + 1)) ∧ (((x8 + 1) ≤ 21) → ((x8 + 1) ≤ 20))) ∧ ((n = n) ∧ ((x12 = x12) ∧ (((gG X Y n x8 ((bq X Y n x8 x12).2)) = (gG X Y n x8 (spV X Y n x8))) ∧ (((0 : Int) = y43) ∧ ((x8 = x8) ∧ (((x8 + 1) = (x8 + 1)) ∧ ((n = n) ∧ ((n = n) ∧ ((((x8 + 1) < n) ↔ ((x8 + 1) < n)) ∧ ((x12 = x12) ∧ ((n = n) ∧ ((n = n) ∧ (((x12 < n) ↔ (x12 < n)) ∧ (((((bq X Y n x8 x12).1) = ((bq X Y n x8 x12).1)) ∧ (((bq X Y n x8 x12).2) = ((bq X Y n x8 x12).2))) ∧ (((x8 + 1) = (x8 + 1)) ∧ ((n = n) ∧ ((((bq X Y n x8 x12).2) = ((bq X Y n x8 x12).2)) ∧ ((((bq X Y n x8 x12).2) = ((bq X Y n x8 x12).2)) ∧ ((gG X Y n x8 ((bq X Y n x8 x12).2)) = (gG X Y n x8 ((bq X Y n x8 x12).2)))))))))))))))))))))))) ∧ (((n ≤ n) ∧ (∀ e47 : E, ((0 ≤ e47.den ∧ e47.den < n) → ((((X (e47.den))) = ((X (e47.den)))) ∧ (((Y (e47.den))) = ((Y (e47.den)))))))) ∧ (((n ≤ n) ∧ (∀ e46 : E, ((0 ≤ e46.den ∧ e46.den < n) → ((gG X Y n x8 (e46.den)) = (gM X Y n x8 y43 (e46.den)))))) ∧ ((((((bq X Y n x8 x12).1) = (spU X Y n x8)) ∧ (((-1) ≤ ((bq X Y n x8 x12).1) ∧ ((bq X Y n x8 x12).1) ≤ 20) → (0 ≤ (spU X Y n x8) ∧ (spU X Y n x8) ≤ 20))) ∧ (((bq X Y n x8 x12).2) = (spV X Y n x8))) ∧ (((((bq X Y n x8 x12).1) = ((bq X Y n x8 x12).1)) ∧ (((bq X Y n x8 x12).2) = ((bq X Y n x8 x12).2))) ∧ (((0 : Int) ≤ x8 ∧ (x8 + 1) = x8 + 1) ∧ (((x8 ≤ x8) ∧ (∀ e45 : E, ((0 ≤ e45.den ∧ e45.den < x8) → (((spU X Y n (e45.den)) = (spU X Y n (e45.den))) ∧ ((spV X Y n (e45.den)) = (spV X Y n (e45.den))))))) ∧ (∀ e44 : E, ((e44.den = x8) → (((((bq X Y n x8 x12).1) = (spU X Y n (e44.den))) ∧ (((-1) ≤ ((bq X Y n x8 x12).1) ∧ ((bq X Y n x8 x12).1) ≤ 20) → (0 ≤ (spU X Y n (e44.den)) ∧ (spU X Y n (e44.den)) ≤ 20))) ∧ (((bq X Y n x8 x12).2) = (spV X Y n (e44.den))))))))))))))) ∧ (∀ x42 : Int, (((0 ≤ x8 ∧ x8 + 1 < n) ∧ 0 ≤ x42 ∧ x42 ≤ n) → (((x42 < n) → ((((0 ≤ x42) ∧ (x42 < n))) ∧ ((x42 < n) ∧ ((((gM X Y n x8 x42 (x42)) = (gG X Y n x8 (spV X Y n x8))) → ((((0 ≤ (spU X Y n x8)) ∧ ((spU X Y n x8) < n))) ∧ (((spU X Y n x8) < n) ∧ ((((0 ≤ x42) ∧ (x42 < n))) ∧ ((x42 < n) ∧ (∃ y48 : Int, (((0 ≤ x8 ∧ x8 + 1 < n) ∧ 0 ≤ y48 ∧ y48 ≤ n) ∧ ((((n = n) ∧ ((((.slice none 0 0) : Value) = (.slice none 0 0)) ∧ (((x8 + 1) = (x8 + 1)) ∧ ((n = n) ∧ ((x12 = x12) ∧ (((gG X Y n x8 (spV X Y n x8)) = (gG X Y n x8 (spV X Y n x8))) ∧ ((((x42 + 1) = y48) ∧ ((1 ≤ (x42 + 1) ∧ (x42 + 1) ≤ 21) → (0 ≤ y48 ∧ y48 ≤ 20))) ∧ ((x8 = x8) ∧ (((x8 + 1) = (x8 + 1)) ∧ ((n = n) ∧ ((n = n) ∧ ((((x8 + 1) < n) ↔ ((x8 + 1) < n)) ∧ ((x12 = x12) ∧ ((n = n) ∧ ((n = n) ∧ (((x12 < n) ↔ (x12 < n)) ∧ (((((bq X Y n x8 x12).1) = ((bq X Y n x8 x12).1)) ∧ (((bq X Y n x8 x12).2) = ((bq X Y n x8 x12).2))) ∧ (((x8 + 1) = (x8 + 1)) ∧ ((n = n) ∧ ((((bq X Y n x8 x12).2) = ((bq X Y n x8 x12).2)) ∧ ((((bq X Y n x8 x12).2) = ((bq X Y n x8 x12).2)) ∧ ((gG X Y n x8 ((bq X Y n x8 x12).2)) = (gG X Y n x8 ((bq X Y n x8 x12).2)))))))))))))))))))))))) ∧ (((n ≤ n) ∧ (∀ e52 : E, ((0 ≤ e52.den ∧ e52.den < n) → ((((X (e52.den))) = ((X (e52.den)))) ∧ (((Y (e52.den))) = ((Y (e52.den)))))))) ∧ (((n = n) ∧ ((∀ e51 : E, ((0 ≤ e51.den ∧ e51.den < n ∧ e51.den ≠ x42) → ((gM X Y n x8 x42 (e51.den)) = (gM X Y n x8 y48 (e51.den))))) ∧ (∀ e50 : E, ((e50.den.toNat = (x42 : Int).toNat ∧ 0 ≤ e50.den) → ((gM X Y n x8 x42 (spU X Y n x8)) = (gM X Y n x8 y48 (e50.den))))))) ∧ ((((spU X Y n x8) = (spU X Y n x8)) ∧ ((spV X Y n x8) = (spV X Y n x8))) ∧ (((((bq X Y n x8 x12).1) = ((bq X Y n x8 x12).1)) ∧ (((bq X Y n x8 x12).2) = ((bq X Y n x8 x12).2))) ∧ (((x8 + 1) ≤ (x8 + 1)) ∧ (∀ e49 : E, ((0 ≤ e49.den ∧ e49.den < (x8 + 1)) → (((spU X Y n (e49.den)) = (spU X Y n (e49.den))) ∧ ((spV X Y n (e49.den)) = (spV X Y n (e49.den)))))))))))) ∧ ((n - y48).toNat < (n - x42).toNat))))))))) ∧ (((gM X Y n x8 x42 (x42)) ≠ (gG X Y n x8 (spV X Y n x8))) → (∃ y53 : Int, (((0 ≤ x8 ∧ x8 + 1 < n) ∧ 0 ≤ y53 ∧ y53 ≤ n) ∧ ((((n = n) ∧ ((((.slice none 0 0) : Value) = (.slice none 0 0)) ∧ (((x8 + 1) = (x8 + 1)) ∧ ((n = n) ∧ ((x12 = x12) ∧ (((gG X Y n x8 (spV X Y n x8)) = (gG X Y n x8 (spV X Y n x8))) ∧ ((((x42 + 1) = y53) ∧ ((1 ≤ (x42 + 1) ∧ (x42 + 1) ≤ 21) → (0 ≤ y53 ∧ y53 ≤ 20))) ∧ ((x8 = x8) ∧ (((x8 + 1) = (x8 + 1)) ∧ ((n = n) ∧ ((n = n) ∧ ((((x8 + 1) < n) ↔ ((x8 + 1) < n)) ∧ ((x12 = x12) ∧ ((n = n) ∧ ((n = n) ∧ (((x12 < n) ↔ (x12 < n)) ∧ (((((bq X Y n x8 x12).1) = ((bq X Y n x8 x12).1)) ∧ (((bq X Y n x8 x12).2) = ((bq X Y n x8 x12).2))) ∧ (((x8 + 1) = (x8 + 1)) ∧ ((n = n) ∧ ((((bq X Y n x8 x12).2) = ((bq X Y n x8 x12).2)) ∧ ((((bq X Y n x8 x12).2) = ((bq X Y n x8 x12).2)) ∧ ((gG X Y n x8 ((bq X Y n x8 x12).2)) = (gG X Y n x8 ((bq X Y n x8 x12).2)))))))))))))))))))))))) ∧ (((n ≤ n) ∧ (∀ e56 : E, ((0 ≤ e56.den ∧ e56.den < n) → ((((X (e56.den))) = ((X (e56.den)))) ∧ (((Y (e56.den))) = ((Y (e56.den)))))))) ∧ (((n ≤ n) ∧ (∀ e55 : E, ((0 ≤ e55.den ∧ e55.den < n) → ((gM X Y n x8 x42 (e55.den)) = (gM X Y n x8 y53 (e55.den)))))) ∧ ((((spU X Y n x8) = (spU X Y n x8)) ∧ ((spV X Y n x8) = (spV X Y n x8))) ∧ (((((bq X Y n x8 x12).1) = ((bq X Y n x8 x12).1)) ∧ (((bq X Y n x8 x12).2) = ((bq X Y n x8 x12).2))) ∧ (((x8 + 1) ≤ (x8 + 1)) ∧ (∀ e54 : E, ((0 ≤ e54.den ∧ e54.den < (x8 + 1)) → (((spU X Y n (e54.den)) = (spU X Y n (e54.den))) ∧ ((spV X Y n (e54.den)) = (spV X Y n (e54.den)))))))))))) ∧ ((n - y53).toNat < (n - x42).toNat))))))))) ∧ ((n ≤ x42) → (∃ y57 : Int, ((0 ≤ y57 ∧ (y57 + 1 ≤ n ∨ y57 = 0)) ∧ ((((n = n) ∧ ((((.slice none 0 0) : Value) = (.slice none 0 0)) ∧ (((x8 + 1) = y57) ∧ (n = n)))) ∧ (((n ≤ n) ∧ (∀ e60 : E, ((0 ≤ e60.den ∧ e60.den < n) → ((((X (e60.den))) = ((X (e60.den)))) ∧ (((Y (e60.den))) = ((Y (e60.den)))))))) ∧ (((y57 ≤ (x8 + 1)) ∧ (∀ e59 : E, ((0 ≤ e59.den ∧ e59.den < y57) → (((spU X Y n (e59.den)) = (spU X Y n (e59.den))) ∧ ((spV X Y n (e59.den)) = (spV X Y n (e59.den))))))) ∧ ((n ≤ n) ∧ (∀ e58 : E, ((0 ≤ e58.den ∧ e58.den < n) → ((gM X Y n x8 x42 (e58.den)) = (gG X Y n y57 (e58.den))))))))) ∧ ((n - y57).toNat < (n - x8).toNat)))))))))))))))))) ∧ ((n ≤ (x8 + 1)) → ((x8 = (stN n)) ∧ (((n ≤ n) ∧ (∀ e62 : E, ((0 ≤ e62.den ∧ e62.den < n) → ((((X (e62.den))) = ((X (e62.den)))) ∧ (((Y (e62.den))) = ((Y (e62.den)))))))) ∧ (((stN n) ≤ x8) ∧ (∀ e61 : E, ((0 ≤ e61.den ∧ e61.den < (stN n)) → (((spU X Y n (e61.den)) = (spU X Y n e61.den)) ∧ ((spV X Y n (e61.den)) = (spV X Y n e61.den))))))))))))))))))) (by kernel_rfl) ?_
  intro h1 h2
  refine ⟨?_, ?_⟩
  · refine ⟨0, ?_⟩
    try dsimp only
    refine ⟨?_, ?_, ⟨Int.le_refl _, fun _ => fun _ => ⟨rfl, rfl⟩⟩, ?_⟩
    · omega
    · refine ⟨rfl, rfl, ?_, ?_⟩
      · omega
      · omega
    · omega
  · intro j
    intro I1
    refine ⟨?_, ?_⟩
    · intro c64
      refine ⟨?_, ?_⟩
      · omega
      · refine ⟨j + 1, ?_⟩
        try dsimp only
        refine ⟨?_, ?_, ?_⟩
        · omega
        · refine ⟨?_, ⟨Int.le_refl _, fun _ => fun _ => ⟨rfl, rfl⟩⟩, ?_, ⟨Int.le_refl _, fun _ => fun _ => rfl⟩, ?_⟩
          · refine ⟨rfl, rfl, ?_, ?_, ?_⟩
            · refine ⟨?_, ?_⟩
              · omega
              · intro c65
                omega
            · omega
            · intro c66
              omega
          · omega
          · intro e5
            intro c67
            omega
        · omega
    · intro c68
      refine ⟨?_, ?_⟩
      · refine ⟨0, ?_⟩
        try dsimp only
        refine ⟨?_, ?_, ⟨Int.le_refl _, fun _ => fun _ => ⟨rfl, rfl⟩⟩, ?_, ?_, ?_⟩
        · omega
        · refine ⟨rfl, rfl, ?_, ?_⟩
          · omega
          · omega
        · omega
        · omega
        · intro e10
          intro c69
          have e : j = n := (by omega); subst e; rfl
      · intro t
        intro I1
        refine ⟨?_, ?_⟩
        · intro c70
          refine ⟨?_, ?_⟩
          · refine ⟨0, ?_⟩
            try dsimp only
            refine ⟨?_, ?_, ⟨Int.le_refl _, fun _ => fun _ => ⟨rfl, rfl⟩⟩, ⟨Int.le_refl _, fun _ => fun _ => ⟨rfl, rfl⟩⟩, ⟨Int.le_refl _, fun _ => fun _ => rfl⟩, ?_, ?_⟩
            · omega
            · refine ⟨rfl, rfl, rfl, rfl, ?_, rfl, rfl, rfl, rfl, rfl, Iff.rfl⟩
              omega
            · have e : j = n := (by omega); subst e; rfl
            · have e : j = n := (by omega); subst e; rfl
          · intro j
            intro I2
            refine ⟨?_, ?_⟩
            · intro c71
              refine ⟨?_, ?_⟩
              · refine ⟨j + 1, ?_⟩
                try dsimp only
                refine ⟨?_, ?_, ⟨Int.le_refl _, fun _ => fun _ => ⟨rfl, rfl⟩⟩, ⟨Int.le_refl _, fun _ => fun _ => ⟨rfl, rfl⟩⟩, ⟨Int.le_refl _, fun _ => fun _ => rfl⟩, ?_, ?_⟩
                · omega
                · refine ⟨rfl, rfl, rfl, rfl, rfl, ?_, rfl, rfl, rfl, rfl, rfl, Iff.rfl, rfl, rfl, rfl, Iff.rfl, rfl, rfl⟩
                  refine ⟨?_, ?_⟩
                  · omega
                  · intro c72
                    omega
                · rw [br_0]; done
                · rw [br_0]; done
              · intro k
                intro I3
                refine ⟨?_, ?_⟩
                · intro c73
                  refine ⟨?_, ?_, ?_, ?_, ?_, ?_⟩
                  · omega
                  · omega
                  · omega
                  · omega
                  · intro c74
                    refine ⟨?_, ?_⟩
                    · intro c75
                      refine ⟨k + 1, ?_⟩
                      try dsimp only
                      refine ⟨?_, ?_, ?_⟩
                      · omega
                      · refine ⟨?_, ⟨Int.le_refl _, fun _ => fun _ => ⟨rfl, rfl⟩⟩, ⟨Int.le_refl _, fun _ => fun _ => ⟨rfl, rfl⟩⟩, ⟨Int.le_refl _, fun _ => fun _ => rfl⟩, ?_, ?_⟩
                        · refine ⟨rfl, rfl, rfl, rfl, rfl, ?_, rfl, rfl, rfl, rfl, rfl, Iff.rfl, rfl, rfl, rfl, Iff.rfl, rfl, rfl⟩
                          refine ⟨?_, ?_⟩
                          · omega
                          · intro c76
                            omega
                        · rw [br_yes (by omega) (by assumption) (.inl (by omega))]; done
                        · rw [br_yes (by omega) (by assumption) (.inl (by omega))]; done
                      · omega
                    · intro c77
                      refine ⟨?_, ?_, ?_, ?_, ⟨⟨rfl, rfl⟩, ⟨rfl, rfl⟩⟩, ?_, ?_, ?_, ?_, ⟨⟨rfl, rfl⟩, ⟨rfl, rfl⟩⟩, ?_⟩
                      · omega
                      · omega
                      · omega
                      · omega
                      · have hb := br_ok (X := X) (Y := Y) (n := n) (t := t) (j := j) (k := k) (by omega) (by omega) (by omega); omega
                      · have hb := br_ok (X := X) (Y := Y) (n := n) (t := t) (j := j) (k := k) (by omega) (by omega) (by omega); omega
                      · have hb := br_ok (X := X) (Y := Y) (n := n) (t := t) (j := j) (k := k) (by omega) (by omega) (by omega); omega
                      · have hb := br_ok (X := X) (Y := Y) (n := n) (t := t) (j := j) (k := k) (by omega) (by omega) (by omega); omega
                      · intro c78
                        refine ⟨?_, ?_⟩
                        · intro c79
                          refine ⟨k + 1, ?_⟩
                          try dsimp only
                          refine ⟨?_, ?_, ?_⟩
                          · omega
                          · refine ⟨?_, ⟨Int.le_refl _, fun _ => fun _ => ⟨rfl, rfl⟩⟩, ⟨Int.le_refl _, fun _ => fun _ => ⟨rfl, rfl⟩⟩, ⟨Int.le_refl _, fun _ => fun _ => rfl⟩, ?_, ?_⟩
                            · refine ⟨rfl, rfl, rfl, rfl, rfl, ?_, rfl, rfl, rfl, rfl, rfl, Iff.rfl, rfl, rfl, rfl, Iff.rfl, rfl, rfl⟩
                              refine ⟨?_, ?_⟩
                              · omega
                              · intro c80
                                omega
                            · rw [br_yes (by omega) (by assumption) (.inr (by omega))]; done
                            · rw [br_yes (by omega) (by assumption) (.inr (by omega))]; done
                          · omega
                        · intro c81
                          refine ⟨k + 1, ?_⟩
                          try dsimp only
                          refine ⟨?_, ?_, ?_⟩
                          · omega
                          · refine ⟨?_, ⟨Int.le_refl _, fun _ => fun _ => ⟨rfl, rfl⟩⟩, ⟨Int.le_refl _, fun _ => fun _ => ⟨rfl, rfl⟩⟩, ⟨Int.le_refl _, fun _ => fun _ => rfl⟩, ?_, ?_⟩
                            · refine ⟨rfl, rfl, rfl, rfl, rfl, ?_, rfl, rfl, rfl, rfl, rfl, Iff.rfl, rfl, rfl, rfl, Iff.rfl, rfl, rfl⟩
                              refine ⟨?_, ?_⟩
                              · omega
                              · intro c82
                                omega
                            · rw [br_no2 (by omega) (by omega) (by omega)]; done
                            · rw [br_no2 (by omega) (by omega) (by omega)]; done
                          · omega
                  · intro c83
                    refine ⟨k + 1, ?_⟩
                    try dsimp only
                    refine ⟨?_, ?_, ?_⟩
                    · omega
                    · refine ⟨?_, ⟨Int.le_refl _, fun _ => fun _ => ⟨rfl, rfl⟩⟩, ⟨Int.le_refl _, fun _ => fun _ => ⟨rfl, rfl⟩⟩, ⟨Int.le_refl _, fun _ => fun _ => rfl⟩, ?_, ?_⟩
                      · refine ⟨rfl, rfl, rfl, rfl, rfl, ?_, rfl, rfl, rfl, rfl, rfl, Iff.rfl, rfl, rfl, rfl, Iff.rfl, rfl, rfl⟩
                        refine ⟨?_, ?_⟩
                        · omega
                        · intro c84
                          omega
                      · rw [br_no1 (by omega) (by assumption)]; done
                      · rw [br_no1 (by omega) (by assumption)]; done
                    · omega
                · intro c85
                  refine ⟨j + 1, ?_⟩
                  try dsimp only
                  refine ⟨?_, ?_, ?_⟩
                  · omega
                  · refine ⟨?_, ⟨Int.le_refl _, fun _ => fun _ => ⟨rfl, rfl⟩⟩, ⟨Int.le_refl _, fun _ => fun _ => ⟨rfl, rfl⟩⟩, ⟨Int.le_refl _, fun _ => fun _ => rfl⟩, ?_, ?_⟩
                    · refine ⟨rfl, rfl, rfl, rfl, ?_, rfl, rfl, rfl, rfl, rfl, Iff.rfl⟩
                      refine ⟨?_, ?_⟩
                      · omega
                      · intro c86
                        omega
                    · rw [br_row (X := X) (Y := Y) (n := n) (t := t) (j := j) (k := k) (by omega) (by omega) (by omega)]; done
                    · rw [br_row (X := X) (Y := Y) (n := n) (t := t) (j := j) (k := k) (by omega) (by omega) (by omega)]; done
                  · omega
            · intro c87
              refine ⟨?_, ?_, ?_, ?_, ?_⟩
              · omega
              · have hb := bq_ok (X := X) (Y := Y) (n := n) (t := t) (by omega) (by omega); (have e : j = n := (by omega); subst e; simp only [spU, spV] at hb; omega)
              · have hb := bq_ok (X := X) (Y := Y) (n := n) (t := t) (by omega) (by omega); (have e : j = n := (by omega); subst e; simp only [spU, spV] at hb; omega)
              · refine ⟨0, ?_⟩
                try dsimp only
                refine ⟨?_, ?_, ⟨Int.le_refl _, fun _ => fun _ => ⟨rfl, rfl⟩⟩, ?_, ?_, ⟨rfl, rfl⟩, ?_, ⟨Int.le_refl _, fun _ => fun _ => ⟨rfl, rfl⟩⟩, ?_⟩
                · omega
                · refine ⟨rfl, rfl, ?_, rfl, rfl, ?_, ?_, rfl, rfl, rfl, rfl, Iff.rfl, rfl, rfl, rfl, Iff.rfl, ⟨rfl, rfl⟩, rfl, rfl, rfl, rfl, rfl⟩
                  · refine ⟨rfl, ?_⟩
                    intro c88
                    omega
                  · have e : j = n := (by omega); subst e; rfl
                  · omega
                · refine ⟨Int.le_refl _, ?_⟩
                  intro e46
                  intro c89
                  exact (gM_0 (by omega)).symm
                · refine ⟨?_, ?_⟩
                  · refine ⟨?_, ?_⟩
                    · have e : j = n := (by omega); subst e; rfl
                    · intro c90
                      have hb := bq_ok (X := X) (Y := Y) (n := n) (t := t) (by omega) (by omega); omega
                  · have e : j = n := (by omega); subst e; rfl
                · omega
                · intro e44
                  intro c91
                  refine ⟨?_, ?_⟩
                  · refine ⟨?_, ?_⟩
                    · have e : j = n := (by omega); subst e; (rw [show e44.den = t by omega]; rfl)
                    · intro c92
                      have hb := bq_ok (X := X) (Y := Y) (n := n) (t := t) (by omega) (by omega); (rw [show e44.den = t by omega]; omega)
                  · have e : j = n := (by omega); subst e; (rw [show e44.den = t by omega]; rfl)
              · intro u
                intro I2
                refine ⟨?_, ?_⟩
                · intro c93
                  refine ⟨?_, ?_, ?_, ?_⟩
                  · omega
                  · omega
                  · intro c94
                    refine ⟨?_, ?_, ?_, ?_, ?_⟩
                    · have hb := bq_ok (X := X) (Y := Y) (n := n) (t := t) (by omega) (by omega); omega
                    · have hb := bq_ok (X := X) (Y := Y) (n := n) (t := t) (by omega) (by omega); omega
                    · omega
                    · omega
                    · refine ⟨u + 1, ?_⟩
                      try dsimp only
                      refine ⟨?_, ?_, ?_⟩
                      · omega
                      · refine ⟨?_, ⟨Int.le_refl _, fun _ => fun _ => ⟨rfl, rfl⟩⟩, ?_, ⟨rfl, rfl⟩, ⟨rfl, rfl⟩, Int.le_refl _, fun _ => fun _ => ⟨rfl, rfl⟩⟩
                        · refine ⟨rfl, rfl, rfl, rfl, rfl, rfl, ?_, rfl, rfl, rfl, rfl, Iff.rfl, rfl, rfl, rfl, Iff.rfl, ⟨rfl, rfl⟩, rfl, rfl, rfl, rfl, rfl⟩
                          refine ⟨?_, ?_⟩
                          · omega
                          · intro c95
                            omega
                        · refine ⟨rfl, ?_, ?_⟩
                          · intro e51
                            intro c96
                            exact (gM_step (by omega)).symm
                          · intro e50
                            intro c97
                            rw [show e50.den = u by omega, gM_keep (by omega) (by omega), gM_yes (by omega) (by have hq : gM X Y n t u u = gG X Y n t (spV X Y n t) := (by assumption); rwa [gM_old (Int.le_refl u)] at hq)]; done
                      · omega
                  · intro c98
                    refine ⟨u + 1, ?_⟩
                    try dsimp only
                    refine ⟨?_, ?_, ?_⟩
                    · omega
                    · refine ⟨?_, ⟨Int.le_refl _, fun _ => fun _ => ⟨rfl, rfl⟩⟩, ?_, ⟨rfl, rfl⟩, ⟨rfl, rfl⟩, Int.le_refl _, fun _ => fun _ => ⟨rfl, rfl⟩⟩
                      · refine ⟨rfl, rfl, rfl, rfl, rfl, rfl, ?_, rfl, rfl, rfl, rfl, Iff.rfl, rfl, rfl, rfl, Iff.rfl, ⟨rfl, rfl⟩, rfl, rfl, rfl, rfl, rfl⟩
                        refine ⟨?_, ?_⟩
                        · omega
                        · intro c99
                          omega
                      · refine ⟨Int.le_refl _, ?_⟩
                        intro e55
                        intro c100
                        by_cases he : e55.den = u; (have hq : gM X Y n t u u ≠ gG X Y n t (spV X Y n t) := (by assumption); rw [gM_old (Int.le_refl u)] at hq; rw [he, gM_old (Int.le_refl u), gM_no (by omega) hq]); exact (gM_step he).symm
                    · omega
                · intro c101
                  refine ⟨t + 1, ?_⟩
                  try dsimp only
                  refine ⟨?_, ?_, ?_⟩
                  · omega
                  · refine ⟨?_, ⟨Int.le_refl _, fun _ => fun _ => ⟨rfl, rfl⟩⟩, ?_, Int.le_refl _, ?_⟩
                    · refine ⟨rfl, rfl, ?_, rfl⟩
                      omega
                    · refine ⟨?_, fun _ => fun _ => ⟨rfl, rfl⟩⟩
                      omega
                    · intro e58
                      intro c102
                      exact gM_end (by omega)
                  · omega
        · intro c103
          refine ⟨?_, ⟨Int.le_refl _, fun _ => fun _ => ⟨rfl, rfl⟩⟩, ?_, fun _ => fun _ => ⟨rfl, rfl⟩⟩
          · exact stN_eq h1.1 (by omega) (by omega) (by omega)
          · exact Int.le_of_eq (stN_eq h1.1 (by omega) (by omega) (by omega)).symm
def c_s_spanning (X : Int → Int) (Y : Int → Int) (n : Int) : Cn Try.prog := ⟨_, _, _, _, _, s_spanning X Y n⟩
def ssN (X Y : Int → Int) (n : Int) : Int := if listB X Y n = true then stN n else 0
theorem ssN_y {X Y : Int → Int} {n : Int} (h : listB X Y n = true) : ssN X Y n = stN n := by unfold ssN; rw [if_pos h]
theorem ssN_n {X Y : Int → Int} {n : Int} (h : listB X Y n = false) : ssN X Y n = 0 := by unfold ssN; rw [if_neg (by rw [h]; decide)]
def seE (C : Int → Int) (n : Int) : Int := ssN (anX C n 0 7) (anY C n 0 7) (anN C n 0 7)
def seZ (C : Int → Int) (n : Int) : Int := if 0 < seE C n then pk C n (anP C n 0 7 + 1) 6 else 9
def seK (C : Int → Int) (n : Int) : Int := pk C n (anP C n 0 7) (seE C n)
def seR (C : Int → Int) (n : Int) : Int := if seZ C n = 2 then 1 else 0
def seM (C : Int → Int) (n : Int) : Int := if seZ C n = 2 then seE C n - 1 else seE C n
def seA (C : Int → Int) (n i : Int) : Int := if seZ C n = 1 ∧ i = seK C n then spV (anX C n 0 7) (anY C n 0 7) (anN C n 0 7) i else spU (anX C n 0 7) (anY C n 0 7) (anN C n 0 7) i
def seB (C : Int → Int) (n i : Int) : Int := if seZ C n = 1 ∧ i = seK C n then spU (anX C n 0 7) (anY C n 0 7) (anN C n 0 7) i else if seZ C n = 0 ∧ i = seK C n then pk C n (anP C n 0 7 + 1 + 1) (anN C n 0 7 + 1) else spV (anX C n 0 7) (anY C n 0 7) (anN C n 0 7) i
theorem sumI_split {F : Int → Int} (a : Nat) : ∀ b : Nat, sumI F (a + b) = sumI F a + sumI (fun t => F (a + t)) b
  | 0 => by rw [sumI]; simp
  | b + 1 => by
    have e : ((a + b : Nat) : Int) = (a : Int) + b := by omega
    rw [show a + (b + 1) = (a + b) + 1 by omega, sumI, sumI, sumI_split a b, e, Int.add_assoc]
theorem tlen_ok {X Y A B : Int → Int} {n m : Int} (h : 0 ≤ tlen X Y n A B m) : (edOK X Y n A B m = true ∧ m ≤ 20) ∧ tlen X Y n A B m = sumI (lnF X Y A B) m.toNat := by
  unfold tlen at h ⊢
  split at h
  · rename_i hc
    rw [if_pos hc]
    rw [Bool.and_eq_true, decide_eq_true_eq] at hc
    exact ⟨hc, rfl⟩
  · exact absurd h (by decide)
theorem tlen_of {X Y A B : Int → Int} {n m : Int} (h : listB X Y n = true) (h2 : ∀ i, 0 ≤ i → i < m → edB n (A i) (B i) = true) (h3 : m ≤ 20) : tlen X Y n A B m = sumI (lnF X Y A B) m.toNat := by
  unfold tlen edOK
  rw [if_pos]
  rw [h, allB_iff.2 (fun i a b => h2 i a b), decide_eq_true h3]
  rfl
theorem tl_split {X Y A B : Int → Int} {n m k s : Int} (h : 0 ≤ tlen X Y n (fun i => A (s + i)) (fun i => B (s + i)) m) (h0 : 0 ≤ k) (h1 : k ≤ m) :
    tlen X Y n (fun i => A (s + i)) (fun i => B (s + i)) k + tlen X Y n (fun i => A (s + k + i)) (fun i => B (s + k + i)) (m - k) = tlen X Y n (fun i => A (s + i)) (fun i => B (s + i)) m := by
  obtain ⟨⟨a, b⟩, e⟩ := tlen_ok h
  obtain ⟨hl, hv⟩ := edOK_split a
  rw [e, tlen_of hl (fun i x y => hv i x (by omega)) (by omega), tlen_of hl (fun i x y => by
    have := hv (k + i) (by omega) (by omega)
    rw [show s + k + i = s + (k + i) by omega]
    exact this) (by omega)]
  rw [show m.toNat = k.toNat + (m - k).toNat by omega, sumI_split]
  congr 1
  congr 1
  funext i
  unfold lnF
  rw [show ((k.toNat : Nat) : Int) = k by omega]
  show mht (X (A (s + k + i))) (Y (A (s + k + i))) (X (B (s + k + i))) (Y (B (s + k + i))) = mht (X (A (s + (k + i)))) (Y (A (s + (k + i)))) (X (B (s + (k + i)))) (Y (B (s + (k + i))))
  rw [show s + (k + i) = s + k + i by omega]
theorem tl_none {X Y A B : Int → Int} {n m : Int} (h : 0 ≤ tlen X Y n A B m) (U V : Int → Int) : tlen X Y n U V 0 = 0 := by
  obtain ⟨⟨a, _⟩, _⟩ := tlen_ok h
  exact tlen_of (edOK_split a).1 (fun i x y => by omega) (by decide)
theorem s_SpanningTree (X : Int → Int) (Y : Int → Int) (n : Int) : RunsTo Try.prog 38 [(.sl 0 2 (.lit 0) (.v fun _ => n) 1048576)] [some ⟨50, 2, true, (.sym (.v fun _ => n) fun e => [(.int .i64 (.v fun _ => (X (e.den))) (-9223372036854775808) 9223372036854775807), (.int .i64 (.v fun _ => (Y (e.den))) (-9223372036854775808) 9223372036854775807)])⟩] (.sl 1 2 (.lit 0) (.v fun _ => ssN X Y n) 20) [some ⟨50, 2, true, (.sym (.v fun _ => n) fun e => [(.int .i64 (.v fun _ => (X (e.den))) (-9223372036854775808) 9223372036854775807), (.int .i64 (.v fun _ => (Y (e.den))) (-9223372036854775808) 9223372036854775807)])⟩, some ⟨58, 2, true, (.sym (.v fun _ => ssN X Y n) fun e => [(.int .i64 (.v fun _ => spU X Y n e.den) 0 20), (.int .i64 (.v fun _ => spV X Y n e.den) 0 20)])⟩] := by
  refine RunsTo.go env Try.func38 rfl Try.call38 rfl rfl (fun _ _ => (.call (c_s_validPoints X Y n) (.ite .ret (.callF (c_s_spanning X Y n) .ret)))) (G := (0 ≤ n ∧ n ≤ 1048576) → (∀ e6 : E, ((0 ≤ e6.den ∧ e6.den < n) → (((-9223372036854775808) ≤ ((X (e6.den))) ∧ ((X (e6.den))) ≤ 9223372036854775807) ∧ ((-9223372036854775808) ≤ ((Y (e6.den))) ∧ ((Y (e6.den))) ≤ 9223372036854775807)))) → ((n = n) ∧ (((n ≤ n) ∧ (∀ e1 : E, ((0 ≤ e1.den ∧ e1.den < n) → ((((X (e1.den))) = ((X (e1.den)))) ∧ (((Y (e1.den))) = ((Y (e1.den)))))))) ∧ ((((listB X Y n) = false) → (((0 : Int) = (ssN X Y n)) ∧ (((n ≤ n) ∧ (∀ e2 : E, ((0 ≤ e2.den ∧ e2.den < n) → ((((X (e2.den))) = ((X (e2.den)))) ∧ (((Y (e2.den))) = ((Y (e2.den)))))))) ∧ ((ssN X Y n) = 0)))) ∧ (((listB X Y n) = true) → (((n = n) ∧ ((n ≤ 1048576) → (n ≤ 20))) ∧ (((n ≤ n) ∧ (∀ e3 : E, ((0 ≤ e3.den ∧ e3.den < n) → (((((X (e3.den))) = ((X (e3.den)))) ∧ (((-9223372036854775808) ≤ ((X (e3.den))) ∧ ((X (e3.den))) ≤ 9223372036854775807) → ((-1000) ≤ ((X (e3.den))) ∧ ((X (e3.den))) ≤ 1000))) ∧ ((((Y (e3.den))) = ((Y (e3.den)))) ∧ (((-9223372036854775808) ≤ ((Y (e3.den))) ∧ ((Y (e3.den))) ≤ 9223372036854775807) → ((-1000) ≤ ((Y (e3.den))) ∧ ((Y (e3.den))) ≤ 1000))))))) ∧ ((0 ≤ (stN n) ∧ (stN n) ≤ 20) → (((stN n) = (ssN X Y n)) ∧ (((n ≤ n) ∧ (∀ e5 : E, ((0 ≤ e5.den ∧ e5.den < n) → ((((X (e5.den))) = ((X (e5.den)))) ∧ (((Y (e5.den))) = ((Y (e5.den)))))))) ∧ (((ssN X Y n) ≤ (stN n)) ∧ (∀ e4 : E, ((0 ≤ e4.den ∧ e4.den < (ssN X Y n)) → (((spU X Y n (e4.den)) = (spU X Y n e4.den)) ∧ ((spV X Y n (e4.den)) = (spV X Y n e4.den)))))))))))))))) (by kernel_rfl) ?_
  intro h1 h2
  refine ⟨rfl, ⟨Int.le_refl _, fun _ => fun _ => ⟨rfl, rfl⟩⟩, ?_, ?_⟩
  · intro c7
    refine ⟨?_, ⟨Int.le_refl _, fun _ => fun _ => ⟨rfl, rfl⟩⟩, ?_⟩
    · exact (ssN_n (by assumption)).symm
    · exact ssN_n (by assumption)
  · intro c8
    refine ⟨?_, ?_, ?_⟩
    · refine ⟨rfl, ?_⟩
      intro c9
      have hl := listB_n (show listB X Y n = true by assumption); omega
    · refine ⟨Int.le_refl _, ?_⟩
      intro e3
      intro c10
      refine ⟨?_, rfl, ?_⟩
      · refine ⟨rfl, ?_⟩
        intro c11
        have hj := listB_bd (show listB X Y n = true by assumption) (i := e3.den) (by omega) (by omega); omega
      · intro c12
        have hj := listB_bd (show listB X Y n = true by assumption) (i := e3.den) (by omega) (by omega); omega
    · intro c13
      refine ⟨?_, ⟨Int.le_refl _, fun _ => fun _ => ⟨rfl, rfl⟩⟩, ?_, fun _ => fun _ => ⟨rfl, rfl⟩⟩
      · rw [ssN_y (by assumption)]; done
      · exact Int.le_of_eq (ssN_y (by assumption))
def c_s_SpanningTree (X : Int → Int) (Y : Int → Int) (n : Int) : Cn Try.prog := ⟨_, _, _, _, _, s_SpanningTree X Y n⟩
theorem anP_b {C : Int → Int} {n : Int} (hC : ∀ i, 0 ≤ i → i < n → 0 ≤ C i ∧ C i ≤ 255) (hn : 0 ≤ n) : 0 ≤ anP C n 0 7 ∧ anP C n 0 7 ≤ 200 := by
  have hr := pk_bd (p := 0 + 1) (k := 7 + 1) hC (by decide) (by decide) (by decide) hn
  have e : rn C n 0 7 = pk C n (0 + 1) (7 + 1) := rfl
  unfold anP
  split
  · omega
  · split
    · omega
    · split <;> omega
theorem seZ_y {C : Int → Int} {n : Int} (h : 0 < seE C n) : seZ C n = pk C n (anP C n 0 7 + 1) 6 := by unfold seZ; rw [if_pos h]
theorem seZ_n {C : Int → Int} {n : Int} (h : seE C n ≤ 0) : seZ C n = 9 := by unfold seZ; rw [if_neg (by omega)]
theorem se_0 {C : Int → Int} {n : Int} (h : seZ C n ≠ 2) : seR C n = 0 ∧ seM C n = seE C n := by unfold seR seM; rw [if_neg h, if_neg h]; exact ⟨rfl, rfl⟩
theorem se_1 {C : Int → Int} {n : Int} (h : seZ C n = 2) : seR C n = 1 ∧ seM C n = seE C n - 1 := by unfold seR seM; rw [if_pos h, if_pos h]; exact ⟨rfl, rfl⟩
theorem seA_o {C : Int → Int} {n i : Int} (h : seZ C n ≠ 1 ∨ i ≠ seK C n) : seA C n i = spU (anX C n 0 7) (anY C n 0 7) (anN C n 0 7) i := by
  unfold seA; rw [if_neg (by omega)]
theorem seA_s {C : Int → Int} {n i : Int} (h : seZ C n = 1) (h2 : i = seK C n) : seA C n i = spV (anX C n 0 7) (anY C n 0 7) (anN C n 0 7) i := by
  unfold seA; rw [if_pos ⟨h, h2⟩]
theorem seB_o {C : Int → Int} {n i : Int} (h : (seZ C n ≠ 1 ∧ seZ C n ≠ 0) ∨ i ≠ seK C n) : seB C n i = spV (anX C n 0 7) (anY C n 0 7) (anN C n 0 7) i := by
  unfold seB; rw [if_neg (by omega), if_neg (by omega)]
theorem seB_s {C : Int → Int} {n i : Int} (h : seZ C n = 1) (h2 : i = seK C n) : seB C n i = spU (anX C n 0 7) (anY C n 0 7) (anN C n 0 7) i := by
  unfold seB; rw [if_pos ⟨h, h2⟩]
theorem seB_q {C : Int → Int} {n i : Int} (h : seZ C n = 0) (h2 : i = seK C n) : seB C n i = pk C n (anP C n 0 7 + 1 + 1) (anN C n 0 7 + 1) := by
  unfold seB; rw [if_neg (by omega), if_pos ⟨h, h2⟩]
theorem s_someEdges (C : Int → Int) (n : Int) : RunsTo Try.prog 98 [(.sl 0 1 (.lit 0) (.v fun _ => n) 9223372036854775807)] [some ⟨5, 1, false, (.sym (.v fun _ => n) fun e => [(.int .u8 (.v fun _ => (C (e.den))) 0 255)])⟩] (.tup [(.sl 1 2 (.lit 0) (.v fun _ => anN C (cut n) 0 7) 64), (.sl 2 2 (.v fun _ => seR C (cut n)) (.v fun _ => seM C (cut n)) 20)]) [some ⟨5, 1, false, (.sym (.v fun _ => cut n) fun e => [(.int .u8 (.v fun _ => (C (e.den))) 0 255)])⟩, some ⟨50, 2, true, (.sym (.v fun _ => anN C (cut n) 0 7) fun e => [(.int .i64 (.v fun _ => anX C (cut n) 0 7 e.den) (-9223372036854775808) 9223372036854775807), (.int .i64 (.v fun _ => anY C (cut n) 0 7 e.den) (-9223372036854775808) 9223372036854775807)])⟩, some ⟨58, 2, true, (.sym (.v fun _ => seE C (cut n)) fun e => [(.int .i64 (.v fun _ => seA C (cut n) e.den) (-1) 100), (.int .i64 (.v fun _ => seB C (cut n) e.den) (-1) 100)])⟩] := by
  refine RunsTo.go env Try.func98 rfl Try.call98 rfl rfl (fun _ _ => (.call (c_s_newReader C n) (.callF (c_anyPoints C (cut n) 0 7) (.callF (c_s_SpanningTree (anX C (cut n) 0 7) (anY C (cut n) 0 7) (anN C (cut n) 0 7)) (.need (.ite (.callF (c_pick C (cut n) (anP C (cut n) 0 7) (ssN (anX C (cut n) 0 7) (anY C (cut n) 0 7) (anN C (cut n) 0 7))) (.callF (c_pick_6 C (cut n) ((anP C (cut n) 0 7) + 1)) (.ite (.callF (c_pick C (cut n) (((anP C (cut n) 0 7) + 1) + 1) ((anN C (cut n) 0 7) + 1)) (.need (.need .ret))) (.ite (.need (.need (.need (.need (.need (.need .ret)))))) (.ite (.need .ret) .ret))))) .ret)))))) (G := (0 ≤ n ∧ n ≤ 9223372036854775807) → (∀ e24 : E, ((0 ≤ e24.den ∧ e24.den < n) → (0 ≤ ((C (e24.den))) ∧ ((C (e24.den))) ≤ 255))) → ((n = n) ∧ (((n ≤ n) ∧ (∀ e1 : E, ((0 ≤ e1.den ∧ e1.den < n) → (((C (e1.den))) = ((C (e1.den))))))) ∧ (((7 : Int) = 7) ∧ (((((cut n) = (cut n)) ∧ ((0 : Int) = 0)) ∧ (((cut n) ≤ (cut n)) ∧ (∀ e2 : E, ((0 ≤ e2.den ∧ e2.den < (cut n)) → (((C (e2.den))) = ((C (e2.den)))))))) ∧ ((0 ≤ (anN C (cut n) 0 7) ∧ (anN C (cut n) 0 7) ≤ 64) → (((anN C (cut n) 0 7) = (anN C (cut n) 0 7)) ∧ ((((anN C (cut n) 0 7) ≤ (anN C (cut n) 0 7)) ∧ (∀ e3 : E, ((0 ≤ e3.den ∧ e3.den < (anN C (cut n) 0 7)) → (((anX C (cut n) 0 7 (e3.den)) = (anX C (cut n) 0 7 ((e3.den)))) ∧ ((anY C (cut n) 0 7 (e3.den)) = (anY C (cut n) 0 7 ((e3.den)))))))) ∧ ((0 ≤ (ssN (anX C (cut n) 0 7) (anY C (cut n) 0 7) (anN C (cut n) 0 7)) ∧ (ssN (anX C (cut n) 0 7) (anY C (cut n) 0 7) (anN C (cut n) 0 7)) ≤ 20) → ((((ssN (anX C (cut n) 0 7) (anY C (cut n) 0 7) (anN C (cut n) 0 7)) ≤ (ssN (anX C (cut n) 0 7) (anY C (cut n) 0 7) (anN C (cut n) 0 7))) ∧ ((oneF (.v fun _ => ssN (anX C (cut n) 0 7) (anY C (cut n) 0 7) (anN C (cut n) 0 7)) (fun e => [(.int .i64 (.v fun _ => spU (anX C (cut n) 0 7) (anY C (cut n) 0 7) (anN C (cut n) 0 7) (e.den)) 0 20), (.int .i64 (.v fun _ => spV (anX C (cut n) 0 7) (anY C (cut n) 0 7) (anN C (cut n) 0 7) (e.den)) 0 20)])) = true)) ∧ (((0 < (ssN (anX C (cut n) 0 7) (anY C (cut n) 0 7) (anN C (cut n) 0 7))) → (((ssN (anX C (cut n) 0 7) (anY C (cut n) 0 7) (anN C (cut n) 0 7)) = (ssN (anX C (cut n) 0 7) (anY C (cut n) 0 7) (anN C (cut n) 0 7))) ∧ (((((cut n) = (cut n)) ∧ ((anP C (cut n) 0 7) = (anP C (cut n) 0 7))) ∧ (((cut n) ≤ (cut n)) ∧ (∀ e4 : E, ((0 ≤ e4.den ∧ e4.den < (cut n)) → (((C (e4.den))) = ((C (e4.den)))))))) ∧ (((-9223372036854775808) ≤ (pk C (cut n) (anP C (cut n) 0 7) (ssN (anX C (cut n) 0 7) (anY C (cut n) 0 7) (anN C (cut n) 0 7))) ∧ (pk C (cut n) (anP C (cut n) 0 7) (ssN (anX C (cut n) 0 7) (anY C (cut n) 0 7) (anN C (cut n) 0 7))) ≤ 9223372036854775807) → (((((cut n) = (cut n)) ∧ ((((anP C (cut n) 0 7) + 1) = ((anP C (cut n) 0 7) + 1)) ∧ ((0 ≤ ((anP C (cut n) 0 7) + 1) ∧ ((anP C (cut n) 0 7) + 1) ≤ 10000001) → (0 ≤ ((anP C (cut n) 0 7) + 1) ∧ ((anP C (cut n) 0 7) + 1) ≤ 10000000)))) ∧ (((cut n) ≤ (cut n)) ∧ (∀ e5 : E, ((0 ≤ e5.den ∧ e5.den < (cut n)) → (((C (e5.den))) = ((C (e5.den)))))))) ∧ ((0 ≤ (pk C (cut n) ((anP C (cut n) 0 7) + 1) 6) ∧ (pk C (cut n) ((anP C (cut n) 0 7) + 1) 6) ≤ 5) → ((((pk C (cut n) ((anP C (cut n) 0 7) + 1) 6) = 0) → ((((anN C (cut n) 0 7) + 1) = ((anN C (cut n) 0 7) + 1)) ∧ (((((cut n) = (cut n)) ∧ (((((anP C (cut n) 0 7) + 1) + 1) = ((((anP C (cut n) 0 7) + 1) + 1))) ∧ ((0 ≤ (((anP C (cut n) 0 7) + 1) + 1) ∧ (((anP C (cut n) 0 7) + 1) + 1) ≤ 10000001) → (0 ≤ ((((anP C (cut n) 0 7) + 1) + 1)) ∧ ((((anP C (cut n) 0 7) + 1) + 1)) ≤ 10000000)))) ∧ (((cut n) ≤ (cut n)) ∧ (∀ e6 : E, ((0 ≤ e6.den ∧ e6.den < (cut n)) → (((C (e6.den))) = ((C (e6.den)))))))) ∧ (((-9223372036854775808) ≤ (pk C (cut n) (((anP C (cut n) 0 7) + 1) + 1) ((anN C (cut n) 0 7) + 1)) ∧ (pk C (cut n) (((anP C (cut n) 0 7) + 1) + 1) ((anN C (cut n) 0 7) + 1)) ≤ 9223372036854775807) → ((((0 ≤ (pk C (cut n) (anP C (cut n) 0 7) (ssN (anX C (cut n) 0 7) (anY C (cut n) 0 7) (anN C (cut n) 0 7)))) ∧ ((pk C (cut n) (anP C (cut n) 0 7) (ssN (anX C (cut n) 0 7) (anY C (cut n) 0 7) (anN C (cut n) 0 7))) < (ssN (anX C (cut n) 0 7) (anY C (cut n) 0 7) (anN C (cut n) 0 7))))) ∧ (((pk C (cut n) (anP C (cut n) 0 7) (ssN (anX C (cut n) 0 7) (anY C (cut n) 0 7) (anN C (cut n) 0 7))) < (ssN (anX C (cut n) 0 7) (anY C (cut n) 0 7) (anN C (cut n) 0 7))) ∧ ((((anN C (cut n) 0 7) = (anN C (cut n) 0 7)) ∧ (((0 : Int) = (seR C (cut n))) ∧ ((ssN (anX C (cut n) 0 7) (anY C (cut n) 0 7) (anN C (cut n) 0 7)) = (seM C (cut n))))) ∧ ((((cut n) ≤ (cut n)) ∧ (∀ e10 : E, ((0 ≤ e10.den ∧ e10.den < (cut n)) → (((C (e10.den))) = ((C (e10.den))))))) ∧ ((((anN C (cut n) 0 7) ≤ (anN C (cut n) 0 7)) ∧ (∀ e9 : E, ((0 ≤ e9.den ∧ e9.den < (anN C (cut n) 0 7)) → (((anX C (cut n) 0 7 ((e9.den))) = (anX C (cut n) 0 7 e9.den)) ∧ ((anY C (cut n) 0 7 ((e9.den))) = (anY C (cut n) 0 7 e9.den)))))) ∧ (((seE C (cut n)) = (ssN (anX C (cut n) 0 7) (anY C (cut n) 0 7) (anN C (cut n) 0 7))) ∧ ((∀ e8 : E, ((0 ≤ e8.den ∧ e8.den < (ssN (anX C (cut n) 0 7) (anY C (cut n) 0 7) (anN C (cut n) 0 7)) ∧ e8.den ≠ (pk C (cut n) (anP C (cut n) 0 7) (ssN (anX C (cut n) 0 7) (anY C (cut n) 0 7) (anN C (cut n) 0 7)))) → (((spU (anX C (cut n) 0 7) (anY C (cut n) 0 7) (anN C (cut n) 0 7) (e8.den)) = (seA C (cut n) e8.den)) ∧ ((spV (anX C (cut n) 0 7) (anY C (cut n) 0 7) (anN C (cut n) 0 7) (e8.den)) = (seB C (cut n) e8.den))))) ∧ (∀ e7 : E, ((e7.den.toNat = ((pk C (cut n) (anP C (cut n) 0 7) (ssN (anX C (cut n) 0 7) (anY C (cut n) 0 7) (anN C (cut n) 0 7))) : Int).toNat ∧ 0 ≤ e7.den) → (((spU (anX C (cut n) 0 7) (anY C (cut n) 0 7) (anN C (cut n) 0 7) (pk C (cut n) (anP C (cut n) 0 7) (ssN (anX C (cut n) 0 7) (anY C (cut n) 0 7) (anN C (cut n) 0 7)))) = (seA C (cut n) e7.den)) ∧ (((pk C (cut n) (((anP C (cut n) 0 7) + 1) + 1) ((anN C (cut n) 0 7) + 1)) = (seB C (cut n) e7.den)) ∧ (((-9223372036854775808) ≤ (pk C (cut n) (((anP C (cut n) 0 7) + 1) + 1) ((anN C (cut n) 0 7) + 1)) ∧ (pk C (cut n) (((anP C (cut n) 0 7) + 1) + 1) ((anN C (cut n) 0 7) + 1)) ≤ 9223372036854775807) → ((-1) ≤ (seB C (cut n) e7.den) ∧ (seB C (cut n) e7.den) ≤ 100))))))))))))))))) ∧ (((pk C (cut n) ((anP C (cut n) 0 7) + 1) 6) ≠ 0) → ((((pk C (cut n) ((anP C (cut n) 0 7) + 1) 6) = 1) → ((((0 ≤ (pk C (cut n) (anP C (cut n) 0 7) (ssN (anX C (cut n) 0 7) (anY C (cut n) 0 7) (anN C (cut n) 0 7)))) ∧ ((pk C (cut n) (anP C (cut n) 0 7) (ssN (anX C (cut n) 0 7) (anY C (cut n) 0 7) (anN C (cut n) 0 7))) < (ssN (anX C (cut n) 0 7) (anY C (cut n) 0 7) (anN C (cut n) 0 7))))) ∧ (((pk C (cut n) (anP C (cut n) 0 7) (ssN (anX C (cut n) 0 7) (anY C (cut n) 0 7) (anN C (cut n) 0 7))) < (ssN (anX C (cut n) 0 7) (anY C (cut n) 0 7) (anN C (cut n) 0 7))) ∧ ((((0 ≤ (pk C (cut n) (anP C (cut n) 0 7) (ssN (anX C (cut n) 0 7) (anY C (cut n) 0 7) (anN C (cut n) 0 7)))) ∧ ((pk C (cut n) (anP C (cut n) 0 7) (ssN (anX C (cut n) 0 7) (anY C (cut n) 0 7) (anN C (cut n) 0 7))) < (ssN (anX C (cut n) 0 7) (anY C (cut n) 0 7) (anN C (cut n) 0 7))))) ∧ (((pk C (cut n) (anP C (cut n) 0 7) (ssN (anX C (cut n) 0 7) (anY C (cut n) 0 7) (anN C (cut n) 0 7))) < (ssN (anX C (cut n) 0 7) (anY C (cut n) 0 7) (anN C (cut n) 0 7))) ∧ ((((0 ≤ (pk C (cut n) (anP C (cut n) 0 7) (ssN (anX C (cut n) 0 7) (anY C (cut n) 0 7) (anN C (cut n) 0 7)))) ∧ ((pk C (cut n) (anP C (cut n) 0 7) (ssN (anX C (cut n) 0 7) (anY C (cut n) 0 7) (anN C (cut n) 0 7))) < (ssN (anX C (cut n) 0 7) (anY C (cut n) 0 7) (anN C (cut n) 0 7))))) ∧ (((pk C (cut n) (anP C (cut n) 0 7) (ssN (anX C (cut n) 0 7) (anY C (cut n) 0 7) (anN C (cut n) 0 7))) < (ssN (anX C (cut n) 0 7) (anY C (cut n) 0 7) (anN C (cut n) 0 7))) ∧ ((((anN C (cut n) 0 7) = (anN C (cut n) 0 7)) ∧ (((0 : Int) = (seR C (cut n))) ∧ ((ssN (anX C (cut n) 0 7) (anY C (cut n) 0 7) (anN C (cut n) 0 7)) = (seM C (cut n))))) ∧ ((((cut n) ≤ (cut n)) ∧ (∀ e14 : E, ((0 ≤ e14.den ∧ e14.den < (cut n)) → (((C (e14.den))) = ((C (e14.den))))))) ∧ ((((anN C (cut n) 0 7) ≤ (anN C (cut n) 0 7)) ∧ (∀ e13 : E, ((0 ≤ e13.den ∧ e13.den < (anN C (cut n) 0 7)) → (((anX C (cut n) 0 7 ((e13.den))) = (anX C (cut n) 0 7 e13.den)) ∧ ((anY C (cut n) 0 7 ((e13.den))) = (anY C (cut n) 0 7 e13.den)))))) ∧ (((seE C (cut n)) = (ssN (anX C (cut n) 0 7) (anY C (cut n) 0 7) (anN C (cut n) 0 7))) ∧ ((∀ e12 : E, ((0 ≤ e12.den ∧ e12.den < (ssN (anX C (cut n) 0 7) (anY C (cut n) 0 7) (anN C (cut n) 0 7)) ∧ e12.den ≠ (pk C (cut n) (anP C (cut n) 0 7) (ssN (anX C (cut n) 0 7) (anY C (cut n) 0 7) (anN C (cut n) 0 7)))) → (((spU (anX C (cut n) 0 7) (anY C (cut n) 0 7) (anN C (cut n) 0 7) (e12.den)) = (seA C (cut n) e12.den)) ∧ ((spV (anX C (cut n) 0 7) (anY C (cut n) 0 7) (anN C (cut n) 0 7) (e12.den)) = (seB C (cut n) e12.den))))) ∧ (∀ e11 : E, ((e11.den.toNat = ((pk C (cut n) (anP C (cut n) 0 7) (ssN (anX C (cut n) 0 7) (anY C (cut n) 0 7) (anN C (cut n) 0 7))) : Int).toNat ∧ 0 ≤ e11.den) → (((spV (anX C (cut n) 0 7) (anY C (cut n) 0 7) (anN C (cut n) 0 7) (pk C (cut n) (anP C (cut n) 0 7) (ssN (anX C (cut n) 0 7) (anY C (cut n) 0 7) (anN C (cut n) 0 7)))) = (seA C (cut n) e11.den)) ∧ ((spU (anX C (cut n) 0 7) (anY C (cut n) 0 7) (anN C (cut n) 0 7) (pk C (cut n) (anP C (cut n) 0 7) (ssN (anX C (cut n) 0 7) (anY C (cut n) 0 7) (anN C (cut n) 0 7)))) = (seB C (cut n) e11.den))))))))))))))))) ∧ (((pk C (cut n) ((anP C (cut n) 0 7) + 1) 6) ≠ 1) → ((((pk C (cut n) ((anP C (cut n) 0 7) + 1) 6) = 2) → ((1 ≤ (ssN (anX C (cut n) 0 7) (anY C (cut n) 0 7) (anN C (cut n) 0 7))) ∧ ((((anN C (cut n) 0 7) = (anN C (cut n) 0 7)) ∧ (((1 : Int) = (seR C (cut n))) ∧ (((ssN (anX C (cut n) 0 7) (anY C (cut n) 0 7) (anN C (cut n) 0 7)) - 1) = (seM C (cut n))))) ∧ ((((cut n) ≤ (cut n)) ∧ (∀ e17 : E, ((0 ≤ e17.den ∧ e17.den < (cut n)) → (((C (e17.den))) = ((C (e17.den))))))) ∧ ((((anN C (cut n) 0 7) ≤ (anN C (cut n) 0 7)) ∧ (∀ e16 : E, ((0 ≤ e16.den ∧ e16.den < (anN C (cut n) 0 7)) → (((anX C (cut n) 0 7 ((e16.den))) = (anX C (cut n) 0 7 e16.den)) ∧ ((anY C (cut n) 0 7 ((e16.den))) = (anY C (cut n) 0 7 e16.den)))))) ∧ (((seE C (cut n)) ≤ (ssN (anX C (cut n) 0 7) (anY C (cut n) 0 7) (anN C (cut n) 0 7))) ∧ (∀ e15 : E, ((0 ≤ e15.den ∧ e15.den < (seE C (cut n))) → (((spU (anX C (cut n) 0 7) (anY C (cut n) 0 7) (anN C (cut n) 0 7) (e15.den)) = (seA C (cut n) e15.den)) ∧ ((spV (anX C (cut n) 0 7) (anY C (cut n) 0 7) (anN C (cut n) 0 7) (e15.den)) = (seB C (cut n) e15.den))))))))))) ∧ (((pk C (cut n) ((anP C (cut n) 0 7) + 1) 6) ≠ 2) → ((((anN C (cut n) 0 7) = (anN C (cut n) 0 7)) ∧ (((0 : Int) = (seR C (cut n))) ∧ ((ssN (anX C (cut n) 0 7) (anY C (cut n) 0 7) (anN C (cut n) 0 7)) = (seM C (cut n))))) ∧ ((((cut n) ≤ (cut n)) ∧ (∀ e20 : E, ((0 ≤ e20.den ∧ e20.den < (cut n)) → (((C (e20.den))) = ((C (e20.den))))))) ∧ ((((anN C (cut n) 0 7) ≤ (anN C (cut n) 0 7)) ∧ (∀ e19 : E, ((0 ≤ e19.den ∧ e19.den < (anN C (cut n) 0 7)) → (((anX C (cut n) 0 7 ((e19.den))) = (anX C (cut n) 0 7 e19.den)) ∧ ((anY C (cut n) 0 7 ((e19.den))) = (anY C (cut n) 0 7 e19.den)))))) ∧ (((seE C (cut n)) ≤ (ssN (anX C (cut n) 0 7) (anY C (cut n) 0 7) (anN C (cut n) 0 7))) ∧ (∀ e18 : E, ((0 ≤ e18.den ∧ e18.den < (seE C (cut n))) → (((spU (anX C (cut n) 0 7) (anY C (cut n) 0 7) (anN C (cut n) 0 7) (e18.den)) = (seA C (cut n) e18.den)) ∧ ((spV (anX C (cut n) 0 7) (anY C (cut n) 0 7) (anN C (cut n) 0 7) (e18.den)) = (seB C (cut n) e18.den))))))))))))))))))))) ∧ (((ssN (anX C (cut n) 0 7) (anY C (cut n) 0 7) (anN C (cut n) 0 7)) ≤ 0) → ((((anN C (cut n) 0 7) = (anN C (cut n) 0 7)) ∧ (((0 : Int) = (seR C (cut n))) ∧ ((ssN (anX C (cut n) 0 7) (anY C (cut n) 0 7) (anN C (cut n) 0 7)) = (seM C (cut n))))) ∧ ((((cut n) ≤ (cut n)) ∧ (∀ e23 : E, ((0 ≤ e23.den ∧ e23.den < (cut n)) → (((C (e23.den))) = ((C (e23.den))))))) ∧ ((((anN C (cut n) 0 7) ≤ (anN C (cut n) 0 7)) ∧ (∀ e22 : E, ((0 ≤ e22.den ∧ e22.den < (anN C (cut n) 0 7)) → (((anX C (cut n) 0 7 ((e22.den))) = (anX C (cut n) 0 7 e22.den)) ∧ ((anY C (cut n) 0 7 ((e22.den))) = (anY C (cut n) 0 7 e22.den)))))) ∧ (((seE C (cut n)) ≤ (ssN (anX C (cut n) 0 7) (anY C (cut n) 0 7) (anN C (cut n) 0 7))) ∧ (∀ e21 : E, ((0 ≤ e21.den ∧ e21.den < (seE C (cut n))) → (((spU (anX C (cut n) 0 7) (anY C (cut n) 0 7) (anN C (cut n) 0 7) (e21.den)) = (seA C (cut n) e21.den)) ∧ ((spV (anX C (cut n) 0 7) (anY C (cut n) 0 7) (anN C (cut n) 0 7) (e21.den)) = (seB C (cut n) e21.den))))))))))))))))))))) (by kernel_rfl) ?_
  intro h1 h2
  have hc := cut_bd h1.1
  have hC : ∀ i, 0 ≤ i → i < cut n → 0 ≤ C i ∧ C i ≤ 255 := fun i a b => h2 (.v fun _ => i) ⟨a, show i < n by omega⟩
  have hp := anP_b hC hc.1
  have e0 : seE C (cut n) = ssN (anX C (cut n) 0 7) (anY C (cut n) 0 7) (anN C (cut n) 0 7) := rfl
  have ek : seK C (cut n) = pk C (cut n) (anP C (cut n) 0 7) (ssN (anX C (cut n) 0 7) (anY C (cut n) 0 7) (anN C (cut n) 0 7)) := rfl
  refine ⟨rfl, ⟨Int.le_refl _, fun _ => fun _ => rfl⟩, rfl, ⟨⟨rfl, rfl⟩, ⟨Int.le_refl _, fun _ => fun _ => rfl⟩⟩, ?_⟩
  intro c25
  refine ⟨rfl, ⟨Int.le_refl _, fun _ => fun _ => ⟨rfl, rfl⟩⟩, ?_⟩
  intro c26
  refine ⟨?_, ?_, ?_⟩
  · refine ⟨?_, ?_⟩
    · omega
      -- 2: (oneF (.v fun _ => ssN (anX C (cut n) 0 7) (anY C (cut n) 0 7) (anN C (cut n) 0 7)) (fun e => [(.int
    · exact oneF_of (fun _ => rfl)
  · intro c27
    refine ⟨rfl, ⟨⟨rfl, rfl⟩, ⟨Int.le_refl _, fun _ => fun _ => rfl⟩⟩, ?_⟩
    intro c28
    refine ⟨?_, ?_⟩
    · refine ⟨?_, Int.le_refl _, fun _ => fun _ => rfl⟩
      refine ⟨rfl, rfl, ?_⟩
      intro c29
      omega
    · intro c30
      refine ⟨?_, ?_⟩
      · intro c31
        refine ⟨rfl, ?_, ?_⟩
        · refine ⟨?_, Int.le_refl _, fun _ => fun _ => rfl⟩
          refine ⟨rfl, rfl, ?_⟩
          intro c32
          omega
        · intro c33
          refine ⟨?_, ?_, ?_, ⟨Int.le_refl _, fun _ => fun _ => rfl⟩, ⟨Int.le_refl _, fun _ => fun _ => ⟨rfl, rfl⟩⟩, ?_, ?_, ?_⟩
          · have hk := pk_bd (p := anP C (cut n) 0 7) (k := ssN (anX C (cut n) 0 7) (anY C (cut n) 0 7) (anN C (cut n) 0 7)) hC (by omega) (by omega) (by omega) (by omega); omega
          · have hk := pk_bd (p := anP C (cut n) 0 7) (k := ssN (anX C (cut n) 0 7) (anY C (cut n) 0 7) (anN C (cut n) 0 7)) hC (by omega) (by omega) (by omega) (by omega); omega
          · refine ⟨rfl, ?_, ?_⟩
            · have hz := seZ_y (C := C) (n := cut n) (by omega); (have hs := se_0 (C := C) (n := cut n) (by omega); omega)
            · have hz := seZ_y (C := C) (n := cut n) (by omega); (have hs := se_0 (C := C) (n := cut n) (by omega); omega)
          · omega
          · intro e8
            intro c34
            refine ⟨?_, ?_⟩
            · have hz := seZ_y (C := C) (n := cut n) (by omega); exact (seA_o (by omega)).symm
            · have hz := seZ_y (C := C) (n := cut n) (by omega); exact (seB_o (by omega)).symm
          · intro e7
            intro c35
            refine ⟨?_, ?_, ?_⟩
            · have hz := seZ_y (C := C) (n := cut n) (by omega); have hk := pk_bd (p := anP C (cut n) 0 7) (k := ssN (anX C (cut n) 0 7) (anY C (cut n) 0 7) (anN C (cut n) 0 7)) hC (by omega) (by omega) (by omega) (by omega); have he : e7.den = seK C (cut n) := (by omega); (rw [he, seA_o (.inl (by omega))]; rfl)
            · have hz := seZ_y (C := C) (n := cut n) (by omega); have hk := pk_bd (p := anP C (cut n) 0 7) (k := ssN (anX C (cut n) 0 7) (anY C (cut n) 0 7) (anN C (cut n) 0 7)) hC (by omega) (by omega) (by omega) (by omega); have he : e7.den = seK C (cut n) := (by omega); (rw [he, seB_q (by omega) rfl]; done)
            · intro c36
              have hz := seZ_y (C := C) (n := cut n) (by omega); have hk := pk_bd (p := anP C (cut n) 0 7) (k := ssN (anX C (cut n) 0 7) (anY C (cut n) 0 7) (anN C (cut n) 0 7)) hC (by omega) (by omega) (by omega) (by omega); have he : e7.den = seK C (cut n) := (by omega); (rw [he, seB_q (by omega) rfl]; have hq := pk_bd (p := anP C (cut n) 0 7 + 1 + 1) (k := anN C (cut n) 0 7 + 1) hC (by omega) (by omega) (by omega) (by omega); omega)
      · intro c37
        refine ⟨?_, ?_⟩
        · intro c38
          refine ⟨?_, ?_, ?_, ?_, ?_, ?_, ?_, ⟨Int.le_refl _, fun _ => fun _ => rfl⟩, ⟨Int.le_refl _, fun _ => fun _ => ⟨rfl, rfl⟩⟩, ?_, ?_, ?_⟩
          · have hk := pk_bd (p := anP C (cut n) 0 7) (k := ssN (anX C (cut n) 0 7) (anY C (cut n) 0 7) (anN C (cut n) 0 7)) hC (by omega) (by omega) (by omega) (by omega); omega
          · have hk := pk_bd (p := anP C (cut n) 0 7) (k := ssN (anX C (cut n) 0 7) (anY C (cut n) 0 7) (anN C (cut n) 0 7)) hC (by omega) (by omega) (by omega) (by omega); omega
          · have hk := pk_bd (p := anP C (cut n) 0 7) (k := ssN (anX C (cut n) 0 7) (anY C (cut n) 0 7) (anN C (cut n) 0 7)) hC (by omega) (by omega) (by omega) (by omega); omega
          · have hk := pk_bd (p := anP C (cut n) 0 7) (k := ssN (anX C (cut n) 0 7) (anY C (cut n) 0 7) (anN C (cut n) 0 7)) hC (by omega) (by omega) (by omega) (by omega); omega
          · have hk := pk_bd (p := anP C (cut n) 0 7) (k := ssN (anX C (cut n) 0 7) (anY C (cut n) 0 7) (anN C (cut n) 0 7)) hC (by omega) (by omega) (by omega) (by omega); omega
          · have hk := pk_bd (p := anP C (cut n) 0 7) (k := ssN (anX C (cut n) 0 7) (anY C (cut n) 0 7) (anN C (cut n) 0 7)) hC (by omega) (by omega) (by omega) (by omega); omega
          · refine ⟨rfl, ?_, ?_⟩
            · have hz := seZ_y (C := C) (n := cut n) (by omega); (have hs := se_0 (C := C) (n := cut n) (by omega); omega)
            · have hz := seZ_y (C := C) (n := cut n) (by omega); (have hs := se_0 (C := C) (n := cut n) (by omega); omega)
          · omega
          · intro e12
            intro c39
            refine ⟨?_, ?_⟩
            · have hz := seZ_y (C := C) (n := cut n) (by omega); exact (seA_o (by omega)).symm
            · have hz := seZ_y (C := C) (n := cut n) (by omega); exact (seB_o (by omega)).symm
          · intro e11
            intro c40
            refine ⟨?_, ?_⟩
            · have hz := seZ_y (C := C) (n := cut n) (by omega); have hk := pk_bd (p := anP C (cut n) 0 7) (k := ssN (anX C (cut n) 0 7) (anY C (cut n) 0 7) (anN C (cut n) 0 7)) hC (by omega) (by omega) (by omega) (by omega); have he : e11.den = seK C (cut n) := (by omega); (rw [he, seA_s (by omega) rfl]; rfl)
            · have hz := seZ_y (C := C) (n := cut n) (by omega); have hk := pk_bd (p := anP C (cut n) 0 7) (k := ssN (anX C (cut n) 0 7) (anY C (cut n) 0 7) (anN C (cut n) 0 7)) hC (by omega) (by omega) (by omega) (by omega); have he : e11.den = seK C (cut n) := (by omega); (rw [he, seB_s (by omega) rfl]; rfl)
        · intro c41
          refine ⟨?_, ?_⟩
          · intro c42
            refine ⟨?_, ?_, ⟨Int.le_refl _, fun _ => fun _ => rfl⟩, ⟨Int.le_refl _, fun _ => fun _ => ⟨rfl, rfl⟩⟩, ?_, ?_⟩
            · omega
            · refine ⟨rfl, ?_, ?_⟩
              · have hz := seZ_y (C := C) (n := cut n) (by omega); (have hs := se_1 (C := C) (n := cut n) (by omega); omega)
              · have hz := seZ_y (C := C) (n := cut n) (by omega); (have hs := se_1 (C := C) (n := cut n) (by omega); omega)
            · omega
            · intro e15
              intro c43
              refine ⟨?_, ?_⟩
              · have hz := seZ_y (C := C) (n := cut n) (by omega); exact (seA_o (by omega)).symm
              · have hz := seZ_y (C := C) (n := cut n) (by omega); exact (seB_o (by omega)).symm
          · intro c44
            refine ⟨?_, ⟨Int.le_refl _, fun _ => fun _ => rfl⟩, ⟨Int.le_refl _, fun _ => fun _ => ⟨rfl, rfl⟩⟩, ?_, ?_⟩
            · refine ⟨rfl, ?_, ?_⟩
              · have hz := seZ_y (C := C) (n := cut n) (by omega); (have hs := se_0 (C := C) (n := cut n) (by omega); omega)
              · have hz := seZ_y (C := C) (n := cut n) (by omega); (have hs := se_0 (C := C) (n := cut n) (by omega); omega)
            · omega
            · intro e18
              intro c45
              refine ⟨?_, ?_⟩
              · have hz := seZ_y (C := C) (n := cut n) (by omega); exact (seA_o (by omega)).symm
              · have hz := seZ_y (C := C) (n := cut n) (by omega); exact (seB_o (by omega)).symm
  · intro c46
    refine ⟨?_, ⟨Int.le_refl _, fun _ => fun _ => rfl⟩, ⟨Int.le_refl _, fun _ => fun _ => ⟨rfl, rfl⟩⟩, ?_, ?_⟩
    · refine ⟨rfl, ?_, ?_⟩
      · have hz := seZ_n (C := C) (n := cut n) (by omega); (have hs := se_0 (C := C) (n := cut n) (by omega); omega)
      · have hz := seZ_n (C := C) (n := cut n) (by omega); (have hs := se_0 (C := C) (n := cut n) (by omega); omega)
    · omega
    · intro e21
      intro c47
      refine ⟨?_, ?_⟩
      · omega
      · omega
def c_s_someEdges (C : Int → Int) (n : Int) : Cn Try.prog := ⟨_, _, _, _, _, s_someEdges C n⟩
theorem Clip_p (A : Int → Int) (B : Int → Int) (m : Int) : RunsTo Try.prog 95 [(.sl 0 2 (.lit 0) (.v fun _ => m) 1048576)] [some ⟨58, 2, true, (.sym (.v fun _ => m) fun e => [(.int .i64 (.v fun _ => (A (e.den))) 0 1048576), (.int .i64 (.v fun _ => (B (e.den))) 0 1048576)])⟩] (.sl 0 2 (.lit 0) (.v fun _ => m) 1048576) [some ⟨58, 2, true, (.sym (.v fun _ => m) fun e => [(.int .i64 (.v fun _ => (A (e.den))) 0 1048576), (.int .i64 (.v fun _ => (B (e.den))) 0 1048576)])⟩] := by
  refine RunsTo.go env Try.func95 rfl Try.call95 rfl rfl (fun _ _ => (.need .ret)) (G := (0 ≤ m ∧ m ≤ 1048576) → (∀ e2 : E, ((0 ≤ e2.den ∧ e2.den < m) → ((0 ≤ ((A (e2.den))) ∧ ((A (e2.den))) ≤ 1048576) ∧ (0 ≤ ((B (e2.den))) ∧ ((B (e2.den))) ≤ 1048576)))) → ((((0 ≤ m) ∧ (((m ≤ m) ∧ (m ≤ m))))) ∧ ((m = m) ∧ ((m ≤ m) ∧ (∀ e1 : E, ((0 ≤ e1.den ∧ e1.den < m) → ((((A (e1.den))) = ((A (e1.den)))) ∧ (((B (e1.den))) = ((B (e1.den))))))))))) (by kernel_rfl) ?_
  intro h1 h2
  refine ⟨?_, rfl, Int.le_refl _, fun _ => fun _ => ⟨rfl, rfl⟩⟩
  -- 1: ((0 ≤ m) ∧ (((m ≤ m) ∧ (m ≤ m))))
  omega
def c_Clip_p (A : Int → Int) (B : Int → Int) (m : Int) : Cn Try.prog := ⟨_, _, _, _, _, Clip_p A B m⟩
end Go.Proofs.Ytcfkpdjbjfnnmaa
