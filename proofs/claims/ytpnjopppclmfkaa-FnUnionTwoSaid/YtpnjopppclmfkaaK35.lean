/- Rectangles: covered area, largest depth. -/
import Derived.Test.YtpnjopppclmfkaaK32
set_option linter.unusedSimpArgs false
set_option linter.unusedVariables false
set_option maxRecDepth 100000
namespace Go.Proofs.Ytpnjopppclmfkaa
open Go.Sym
theorem s_coveredArea (A : Int → Int) (B : Int → Int) (D : Int → Int) (F : Int → Int) (n : Int) (d : Int) (hp : 1 ≤ d) : RunsTo Try.prog 71 [(.sl 0 4 (.lit 0) (.v fun _ => n) 12), (.int .i64 (.v fun _ => d) (-9223372036854775808) 9223372036854775807)] [some ⟨57, 4, true, (.sym (.v fun _ => n) fun e => [(.int .i64 (.v fun _ => (A (e.den))) (-1000) 1000), (.int .i64 (.v fun _ => (B (e.den))) (-1000) 1000), (.int .i64 (.v fun _ => (D (e.den))) (-1000) 1000), (.int .i64 (.v fun _ => (F (e.den))) (-1000) 1000)])⟩] (.int .i64 (.v fun _ => ua A B D F n d) 0 4000000) [some ⟨57, 4, true, (.sym (.v fun _ => n) fun e => [(.int .i64 (.v fun _ => (A (e.den))) (-1000) 1000), (.int .i64 (.v fun _ => (B (e.den))) (-1000) 1000), (.int .i64 (.v fun _ => (D (e.den))) (-1000) 1000), (.int .i64 (.v fun _ => (F (e.den))) (-1000) 1000)])⟩] := by
  refine RunsTo.go env Try.func71 rfl Try.call71 rfl rfl (fun _ _ => (.callF (c_s_cells A B D F n) (.loop [] [0, 1, 2] (Int) (fun x2 => ⟨spl 65 0 [(0, (.sl 0 4 (.lit 0) (.v fun _ => n) 12)), (1, (.int .i64 (.v fun _ => d) (-9223372036854775808) 9223372036854775807)), (4, (.int .i64 (.lit 0) 0 0)), (5, (.sl 1 1 (.lit 0) (.v fun _ => uN A D n) 24)), (6, (.sl 2 1 (.lit 0) (.v fun _ => uN B F n) 24)), (7, (.int .i64 (.v fun _ => smf (cvR A B D F n d) x2.toNat) 0 2304000000)), (8, (.int .i64 (.v fun _ => x2) 0 24))], [some ⟨57, 4, true, (.sym (.v fun _ => n) fun e => [(.int .i64 (.v fun _ => ((A (e.den)))) (-1000) 1000), (.int .i64 (.v fun _ => ((B (e.den)))) (-1000) 1000), (.int .i64 (.v fun _ => ((D (e.den)))) (-1000) 1000), (.int .i64 (.v fun _ => ((F (e.den)))) (-1000) 1000)])⟩, some ⟨3, 1, true, (.sym (.v fun _ => uN A D n) fun e => [(.int .i64 (.v fun _ => uX A D n (e.den)) (-1000) 1000)])⟩, some ⟨3, 1, true, (.sym (.v fun _ => uN B F n) fun e => [(.int .i64 (.v fun _ => uX B F n (e.den)) (-1000) 1000)])⟩], 1⟩) (fun x2 => 0 ≤ x2 ∧ (x2 + 1 ≤ uN A D n ∨ x2 = 0)) (fun x2 => (uN A D n - x2).toNat) fun x2 => (.ite (.loop [] [0, 1, 2] (Int) (fun x7 => ⟨spl 65 0 [(0, (.sl 0 4 (.lit 0) (.v fun _ => n) 12)), (1, (.int .i64 (.v fun _ => d) (-9223372036854775808) 9223372036854775807)), (4, (.int .i64 (.lit 0) 0 0)), (5, (.sl 1 1 (.lit 0) (.v fun _ => uN A D n) 24)), (6, (.sl 2 1 (.lit 0) (.v fun _ => uN B F n) 24)), (7, (.int .i64 (.v fun _ => smf (cvR A B D F n d) x2.toNat + smf (cvC A B D F n d x2) x7.toNat) 0 2400000000)), (8, (.int .i64 (.v fun _ => x2) 0 24)), (9, (.int .i64 (.v fun _ => x7) 0 24)), (15, (.int .i64 (.v fun _ => x2) 0 24)), (16, (.int .i64 (.add (.v fun _ => x2) (.lit 1)) 1 25)), (17, (.sl 1 1 (.lit 0) (.v fun _ => uN A D n) 24)), (18, (.int .i64 (.v fun _ => uN A D n) 0 24)), (19, (.bool (.lt (.add (.v fun _ => x2) (.lit 1)) (.v fun _ => uN A D n))))], [some ⟨57, 4, true, (.sym (.v fun _ => n) fun e => [(.int .i64 (.v fun _ => ((A (e.den)))) (-1000) 1000), (.int .i64 (.v fun _ => ((B (e.den)))) (-1000) 1000), (.int .i64 (.v fun _ => ((D (e.den)))) (-1000) 1000), (.int .i64 (.v fun _ => ((F (e.den)))) (-1000) 1000)])⟩, some ⟨3, 1, true, (.sym (.v fun _ => uN A D n) fun e => [(.int .i64 (.v fun _ => uX A D n (e.den)) (-1000) 1000)])⟩, some ⟨3, 1, true, (.sym (.v fun _ => uN B F n) fun e => [(.int .i64 (.v fun _ => uX B F n (e.den)) (-1000) 1000)])⟩], 1⟩) (fun x7 => (0 ≤ x2 ∧ x2 + 1 < uN A D n) ∧ 0 ≤ x7 ∧ x7 + 1 ≤ uN B F n) (fun x7 => (uN B F n - x7).toNat) fun x7 => (.ite (.need (.need (.need (.need (.call (c_s_depthAt A B D F n (uX A D n (x2)) (uX B F n (x7))) (.ite (.need (.need (.need (.need (.need (.need (.need (.need (.next [0, 1, 2]))))))))) (.next [0, 1, 2]))))))) (.out (.next [0, 1, 2])))) (.out .ret))))) (G := ((0 ≤ n ∧ n ≤ 12) ∧ ((-9223372036854775808) ≤ d ∧ d ≤ 9223372036854775807)) → (∀ e26 : E, ((0 ≤ e26.den ∧ e26.den < n) → (((-1000) ≤ ((A (e26.den))) ∧ ((A (e26.den))) ≤ 1000) ∧ (((-1000) ≤ ((B (e26.den))) ∧ ((B (e26.den))) ≤ 1000) ∧ (((-1000) ≤ ((D (e26.den))) ∧ ((D (e26.den))) ≤ 1000) ∧ ((-1000) ≤ ((F (e26.den))) ∧ ((F (e26.den))) ≤ 1000)))))) → ((n = n) ∧ (((n ≤ n) ∧ (∀ e1 : E, ((0 ≤ e1.den ∧ e1.den < n) → ((((A (e1.den))) = ((A (e1.den)))) ∧ ((((B (e1.den))) = ((B (e1.den)))) ∧ ((((D (e1.den))) = ((D (e1.den)))) ∧ (((F (e1.den))) = ((F (e1.den)))))))))) ∧ (((0 ≤ (uN A D n) ∧ (uN A D n) ≤ 24) ∧ (0 ≤ (uN B F n) ∧ (uN B F n) ≤ 24)) → ((∃ y3 : Int, ((0 ≤ y3 ∧ (y3 + 1 ≤ uN A D n ∨ y3 = 0)) ∧ (((n = n) ∧ ((d = d) ∧ (((uN A D n) = (uN A D n)) ∧ (((uN B F n) = (uN B F n)) ∧ (((0 : Int) = (smf (cvR A B D F n d) y3.toNat)) ∧ ((0 : Int) = y3)))))) ∧ (((n ≤ n) ∧ (∀ e6 : E, ((0 ≤ e6.den ∧ e6.den < n) → ((((A (e6.den))) = ((A (e6.den)))) ∧ ((((B (e6.den))) = ((B (e6.den)))) ∧ ((((D (e6.den))) = ((D (e6.den)))) ∧ (((F (e6.den))) = ((F (e6.den)))))))))) ∧ ((((uN A D n) ≤ (uN A D n)) ∧ (∀ e5 : E, ((0 ≤ e5.den ∧ e5.den < (uN A D n)) → ((uX A D n (e5.den)) = (uX A D n (e5.den)))))) ∧ (((uN B F n) ≤ (uN B F n)) ∧ (∀ e4 : E, ((0 ≤ e4.den ∧ e4.den < (uN B F n)) → ((uX B F n (e4.den)) = (uX B F n (e4.den))))))))))) ∧ (∀ x2 : Int, ((0 ≤ x2 ∧ (x2 + 1 ≤ uN A D n ∨ x2 = 0)) → ((((x2 + 1) < (uN A D n)) → ((∃ y8 : Int, (((0 ≤ x2 ∧ x2 + 1 < uN A D n) ∧ 0 ≤ y8 ∧ y8 + 1 ≤ uN B F n) ∧ (((n = n) ∧ ((d = d) ∧ (((uN A D n) = (uN A D n)) ∧ (((uN B F n) = (uN B F n)) ∧ (((smf (cvR A B D F n d) x2.toNat) = (smf (cvR A B D F n d) x2.toNat + smf (cvC A B D F n d x2) y8.toNat)) ∧ ((x2 = x2) ∧ (((0 : Int) = y8) ∧ ((x2 = x2) ∧ (((x2 + 1) = (x2 + 1)) ∧ (((uN A D n) = (uN A D n)) ∧ (((uN A D n) = (uN A D n)) ∧ (((x2 + 1) < (uN A D n)) ↔ ((x2 + 1) < (uN A D n)))))))))))))) ∧ (((n ≤ n) ∧ (∀ e11 : E, ((0 ≤ e11.den ∧ e11.den < n) → ((((A (e11.den))) = ((A (e11.den)))) ∧ ((((B (e11.den))) = ((B (e11.den)))) ∧ ((((D (e11.den))) = ((D (e11.den)))) ∧ (((F (e11.den))) = ((F (e11.den)))))))))) ∧ ((((uN A D n) ≤ (uN A D n)) ∧ (∀ e10 : E, ((0 ≤ e10.den ∧ e10.den < (uN A D n)) → ((uX A D n (e10.den)) = (uX A D n (e10.den)))))) ∧ (((uN B F n) ≤ (uN B F n)) ∧ (∀ e9 : E, ((0 ≤ e9.den ∧ e9.den < (uN B F n)) → ((uX B F n (e9.den)) = (uX B F n (e9.den))))))))))) ∧ (∀ x7 : Int, (((0 ≤ x2 ∧ x2 + 1 < uN A D n) ∧ 0 ≤ x7 ∧ x7 + 1 ≤ uN B F n) → ((((x7 + 1) < (uN B F n)) → ((((0 ≤ x2) ∧ (x2 < (uN A D n)))) ∧ ((x2 < (uN A D n)) ∧ ((((0 ≤ x7) ∧ (x7 < (uN B F n)))) ∧ ((x7 < (uN B F n)) ∧ (((n = n) ∧ (((uX A D n (x2)) = (uX A D n (x2))) ∧ ((uX B F n (x7)) = (uX B F n (x7))))) ∧ (((n ≤ n) ∧ (∀ e12 : E, ((0 ≤ e12.den ∧ e12.den < n) → ((((A (e12.den))) = ((A (e12.den)))) ∧ ((((B (e12.den))) = ((B (e12.den)))) ∧ ((((D (e12.den))) = ((D (e12.den)))) ∧ (((F (e12.den))) = ((F (e12.den)))))))))) ∧ (((d ≤ (dep A B D F n (uX A D n (x2)) (uX B F n (x7)))) → ((((0 ≤ (x2 + 1)) ∧ ((x2 + 1) < (uN A D n)))) ∧ (((x2 + 1) < (uN A D n)) ∧ ((((0 ≤ x2) ∧ (x2 < (uN A D n)))) ∧ ((x2 < (uN A D n)) ∧ ((((0 ≤ (x7 + 1)) ∧ ((x7 + 1) < (uN B F n)))) ∧ (((x7 + 1) < (uN B F n)) ∧ ((((0 ≤ x7) ∧ (x7 < (uN B F n)))) ∧ ((x7 < (uN B F n)) ∧ (∃ y13 : Int, (((0 ≤ x2 ∧ x2 + 1 < uN A D n) ∧ 0 ≤ y13 ∧ y13 + 1 ≤ uN B F n) ∧ ((((n = n) ∧ ((d = d) ∧ (((uN A D n) = (uN A D n)) ∧ (((uN B F n) = (uN B F n)) ∧ (((((smf (cvR A B D F n d) x2.toNat + smf (cvC A B D F n d x2) x7.toNat) + (((uX A D n (x2 + 1)) - (uX A D n (x2))) * ((uX B F n (x7 + 1)) - (uX B F n (x7))))) = (smf (cvR A B D F n d) x2.toNat + smf (cvC A B D F n d x2) y13.toNat)) ∧ (((-4000000) ≤ ((smf (cvR A B D F n d) x2.toNat + smf (cvC A B D F n d x2) x7.toNat) + (((uX A D n (x2 + 1)) - (uX A D n (x2))) * ((uX B F n (x7 + 1)) - (uX B F n (x7))))) ∧ ((smf (cvR A B D F n d) x2.toNat + smf (cvC A B D F n d x2) x7.toNat) + (((uX A D n (x2 + 1)) - (uX A D n (x2))) * ((uX B F n (x7 + 1)) - (uX B F n (x7))))) ≤ 2404000000) → (0 ≤ (smf (cvR A B D F n d) x2.toNat + smf (cvC A B D F n d x2) y13.toNat) ∧ (smf (cvR A B D F n d) x2.toNat + smf (cvC A B D F n d x2) y13.toNat) ≤ 2400000000))) ∧ ((x2 = x2) ∧ ((((x7 + 1) = y13) ∧ ((1 ≤ (x7 + 1) ∧ (x7 + 1) ≤ 25) → (0 ≤ y13 ∧ y13 ≤ 24))) ∧ ((x2 = x2) ∧ (((x2 + 1) = (x2 + 1)) ∧ (((uN A D n) = (uN A D n)) ∧ (((uN A D n) = (uN A D n)) ∧ (((x2 + 1) < (uN A D n)) ↔ ((x2 + 1) < (uN A D n)))))))))))))) ∧ (((n ≤ n) ∧ (∀ e16 : E, ((0 ≤ e16.den ∧ e16.den < n) → ((((A (e16.den))) = ((A (e16.den)))) ∧ ((((B (e16.den))) = ((B (e16.den)))) ∧ ((((D (e16.den))) = ((D (e16.den)))) ∧ (((F (e16.den))) = ((F (e16.den)))))))))) ∧ ((((uN A D n) ≤ (uN A D n)) ∧ (∀ e15 : E, ((0 ≤ e15.den ∧ e15.den < (uN A D n)) → ((uX A D n (e15.den)) = (uX A D n (e15.den)))))) ∧ (((uN B F n) ≤ (uN B F n)) ∧ (∀ e14 : E, ((0 ≤ e14.den ∧ e14.den < (uN B F n)) → ((uX B F n (e14.den)) = (uX B F n (e14.den))))))))) ∧ ((uN B F n - y13).toNat < (uN B F n - x7).toNat))))))))))))) ∧ (((dep A B D F n (uX A D n (x2)) (uX B F n (x7))) < d) → (∃ y17 : Int, (((0 ≤ x2 ∧ x2 + 1 < uN A D n) ∧ 0 ≤ y17 ∧ y17 + 1 ≤ uN B F n) ∧ ((((n = n) ∧ ((d = d) ∧ (((uN A D n) = (uN A D n)) ∧ (((uN B F n) = (uN B F n)) ∧ (((smf (cvR A B D F n d) x2.toNat + smf (cvC A B D F n d x2) x7.toNat) = (smf (cvR A B D F n d) x2.toNat + smf (cvC A B D F n d x2) y17.toNat)) ∧ ((x2 = x2) ∧ ((((x7 + 1) = y17) ∧ ((1 ≤ (x7 + 1) ∧ (x7 + 1) ≤ 25) → (0 ≤ y17 ∧ y17 ≤ 24))) ∧ ((x2 = x2) ∧ (((x2 + 1) = (x2 + 1)) ∧ (((uN A D n) = (uN A D n)) ∧ (((uN A D n) = (uN A D n)) ∧ (((x2 + 1) < (uN A D n)) ↔ ((x2 + 1) < (uN A D n)))))))))))))) ∧ (((n ≤ n) ∧ (∀ e20 : E, ((0 ≤ e20.den ∧ e20.den < n) → ((((A (e20.den))) = ((A (e20.den)))) ∧ ((((B (e20.den))) = ((B (e20.den)))) ∧ ((((D (e20.den))) = ((D (e20.den)))) ∧ (((F (e20.den))) = ((F (e20.den)))))))))) ∧ ((((uN A D n) ≤ (uN A D n)) ∧ (∀ e19 : E, ((0 ≤ e19.den ∧ e19.den < (uN A D n)) → ((uX A D n (e19.den)) = (uX A D n (e19.den)))))) ∧ (((uN B F n) ≤ (uN B F n)) ∧ (∀ e18 : E, ((0 ≤ e18.den ∧ e18.den < (uN B F n)) → ((uX B F n (e18.den)) = (uX B F n (e18.den))))))))) ∧ ((uN B F n - y17).toNat < (uN B F n - x7).toNat))))))))))))) ∧ (((uN B F n) ≤ (x7 + 1)) → (∃ y21 : Int, ((0 ≤ y21 ∧ (y21 + 1 ≤ uN A D n ∨ y21 = 0)) ∧ ((((n = n) ∧ ((d = d) ∧ (((uN A D n) = (uN A D n)) ∧ (((uN B F n) = (uN B F n)) ∧ ((((smf (cvR A B D F n d) x2.toNat + smf (cvC A B D F n d x2) x7.toNat) = (smf (cvR A B D F n d) y21.toNat)) ∧ ((0 ≤ (smf (cvR A B D F n d) x2.toNat + smf (cvC A B D F n d x2) x7.toNat) ∧ (smf (cvR A B D F n d) x2.toNat + smf (cvC A B D F n d x2) x7.toNat) ≤ 2400000000) → (0 ≤ (smf (cvR A B D F n d) y21.toNat) ∧ (smf (cvR A B D F n d) y21.toNat) ≤ 2304000000))) ∧ (((x2 + 1) = y21) ∧ ((1 ≤ (x2 + 1) ∧ (x2 + 1) ≤ 25) → (0 ≤ y21 ∧ y21 ≤ 24)))))))) ∧ (((n ≤ n) ∧ (∀ e24 : E, ((0 ≤ e24.den ∧ e24.den < n) → ((((A (e24.den))) = ((A (e24.den)))) ∧ ((((B (e24.den))) = ((B (e24.den)))) ∧ ((((D (e24.den))) = ((D (e24.den)))) ∧ (((F (e24.den))) = ((F (e24.den)))))))))) ∧ ((((uN A D n) ≤ (uN A D n)) ∧ (∀ e23 : E, ((0 ≤ e23.den ∧ e23.den < (uN A D n)) → ((uX A D n (e23.den)) = (uX A D n (e23.den)))))) ∧ (((uN B F n) ≤ (uN B F n)) ∧ (∀ e22 : E, ((0 ≤ e22.den ∧ e22.den < (uN B F n)) → ((uX B F n (e22.den)) = (uX B F n (e22.den))))))))) ∧ ((uN A D n - y21).toNat < (uN A D n - x2).toNat)))))))))) ∧ (((uN A D n) ≤ (x2 + 1)) → ((((smf (cvR A B D F n d) x2.toNat) = (ua A B D F n d)) ∧ ((0 ≤ (smf (cvR A B D F n d) x2.toNat) ∧ (smf (cvR A B D F n d) x2.toNat) ≤ 2304000000) → (0 ≤ (ua A B D F n d) ∧ (ua A B D F n d) ≤ 4000000))) ∧ ((n ≤ n) ∧ (∀ e25 : E, ((0 ≤ e25.den ∧ e25.den < n) → ((((A (e25.den))) = ((A (e25.den)))) ∧ ((((B (e25.den))) = ((B (e25.den)))) ∧ ((((D (e25.den))) = ((D (e25.den)))) ∧ (((F (e25.den))) = ((F (e25.den)))))))))))))))))))) (by kernel_rfl) ?_
  intro h1 h2
  have hR : okR A B D F n := (fun r a b => by have h : (-1000 ≤ A r ∧ A r ≤ 1000) ∧ (-1000 ≤ B r ∧ B r ≤ 1000) ∧ (-1000 ≤ D r ∧ D r ≤ 1000) ∧ (-1000 ≤ F r ∧ F r ≤ 1000) := h2 (.lit r) ⟨a, b⟩; exact ⟨⟨h.1, h.2.2.1⟩, h.2.1, h.2.2.2⟩)
  have hu := uN_bd A D (n := n) h1.1.1
  have hv := uN_bd B F (n := n) h1.1.1
  refine ⟨rfl, ⟨Int.le_refl _, fun _ => fun _ => ⟨rfl, ⟨rfl, ⟨rfl, rfl⟩⟩⟩⟩, ?_⟩
  intro c27
  refine ⟨?_, ?_⟩
  · refine ⟨0, ?_⟩
    try dsimp only
    refine ⟨?_, ?_, ⟨Int.le_refl _, fun _ => fun _ => ⟨rfl, ⟨rfl, ⟨rfl, rfl⟩⟩⟩⟩, ⟨Int.le_refl _, fun _ => fun _ => rfl⟩, Int.le_refl _, fun _ => fun _ => rfl⟩
    · omega
    · refine ⟨rfl, rfl, rfl, rfl, ?_, ?_⟩
      · rfl
      · omega
  · intro j
    intro I1
    refine ⟨?_, ?_⟩
    · intro c28
      refine ⟨?_, ?_⟩
      · refine ⟨0, ?_⟩
        try dsimp only
        refine ⟨?_, ?_, ⟨Int.le_refl _, fun _ => fun _ => ⟨rfl, ⟨rfl, ⟨rfl, rfl⟩⟩⟩⟩, ⟨Int.le_refl _, fun _ => fun _ => rfl⟩, Int.le_refl _, fun _ => fun _ => rfl⟩
        · have hp := uN_p A D (n := n) (by omega) (by omega); have hq := uN_1 B F hp; omega
        · refine ⟨rfl, rfl, rfl, rfl, ?_, rfl, ?_, rfl, rfl, rfl, rfl, Iff.rfl⟩
          · rw [smf_t0, Int.add_zero]; done
          · omega
      · intro k
        intro I2
        refine ⟨?_, ?_⟩
        · intro c29
          refine ⟨?_, ?_, ?_, ?_, ⟨rfl, ⟨rfl, rfl⟩⟩, ⟨Int.le_refl _, fun _ => fun _ => ⟨rfl, ⟨rfl, ⟨rfl, rfl⟩⟩⟩⟩, ?_, ?_⟩
          · omega
          · omega
          · omega
          · omega
          · intro c30
            refine ⟨?_, ?_, ?_, ?_, ?_, ?_, ?_, ?_, ?_⟩
            · omega
            · omega
            · omega
            · omega
            · omega
            · omega
            · omega
            · omega
            · refine ⟨k + 1, ?_⟩
              try dsimp only
              refine ⟨?_, ?_, ?_⟩
              · omega
              · refine ⟨?_, ⟨Int.le_refl _, fun _ => fun _ => ⟨rfl, ⟨rfl, ⟨rfl, rfl⟩⟩⟩⟩, ⟨Int.le_refl _, fun _ => fun _ => rfl⟩, Int.le_refl _, fun _ => fun _ => rfl⟩
                refine ⟨rfl, rfl, rfl, rfl, ?_, rfl, ?_, rfl, rfl, rfl, rfl, Iff.rfl⟩
                · refine ⟨?_, ?_⟩
                  · have hq : cvC A B D F n d j k = (uX A D n (j + 1) - uX A D n j) * (uX B F n (k + 1) - uX B F n k) := if_pos (by omega); rw [smf_next (by omega), hq, Int.add_assoc]; done
                  · intro c31
                    have hb := cvr_bd (d := d) h1.1 hR (i := j) (by omega) (by omega); have hc := cvs_bd (d := d) h1.1 hR (i := j) (k := k + 1) (by omega) (by omega) (by omega) (by omega); omega
                · refine ⟨?_, ?_⟩
                  · omega
                  · intro c32
                    omega
              · omega
          · intro c33
            refine ⟨k + 1, ?_⟩
            try dsimp only
            refine ⟨?_, ?_, ?_⟩
            · omega
            · refine ⟨?_, ⟨Int.le_refl _, fun _ => fun _ => ⟨rfl, ⟨rfl, ⟨rfl, rfl⟩⟩⟩⟩, ⟨Int.le_refl _, fun _ => fun _ => rfl⟩, Int.le_refl _, fun _ => fun _ => rfl⟩
              refine ⟨rfl, rfl, rfl, rfl, ?_, rfl, ?_, rfl, rfl, rfl, rfl, Iff.rfl⟩
              · have hq : cvC A B D F n d j k = 0 := if_neg (by omega); rw [smf_next (by omega), hq, Int.add_zero]; done
              · refine ⟨?_, ?_⟩
                · omega
                · intro c34
                  omega
            · omega
        · intro c35
          refine ⟨j + 1, ?_⟩
          try dsimp only
          refine ⟨?_, ?_, ?_⟩
          · omega
          · refine ⟨?_, ⟨Int.le_refl _, fun _ => fun _ => ⟨rfl, ⟨rfl, ⟨rfl, rfl⟩⟩⟩⟩, ⟨Int.le_refl _, fun _ => fun _ => rfl⟩, Int.le_refl _, fun _ => fun _ => rfl⟩
            refine ⟨rfl, rfl, rfl, rfl, ?_, ?_, ?_⟩
            · refine ⟨?_, ?_⟩
              · rw [show k = uN B F n - 1 by omega, smf_next (by omega)]; rfl
              · intro c36
                have hb := cvr_bd (d := d) h1.1 hR (i := j + 1) (by omega) (by omega); omega
            · omega
            · intro c37
              omega
          · omega
    · intro c38
      refine ⟨?_, Int.le_refl _, fun _ => fun _ => ⟨rfl, ⟨rfl, ⟨rfl, rfl⟩⟩⟩⟩
      refine ⟨?_, ?_⟩
      · have e : j.toNat = (uN A D n - 1).toNat := (by omega); rw [e]; exact cov_S h1.1.1 hR hp
      · intro c39
        exact ua_bd _ _ _ _ _ _
def c_s_coveredArea (A : Int → Int) (B : Int → Int) (D : Int → Int) (F : Int → Int) (n : Int) (d : Int) : CnH Try.prog := ⟨_, _, _, _, _, _, s_coveredArea A B D F n d⟩
theorem s_validRects (A : Int → Int) (B : Int → Int) (D : Int → Int) (F : Int → Int) (n : Int) : RunsTo Try.prog 70 [(.sl 0 4 (.lit 0) (.v fun _ => n) 1048576)] [some ⟨57, 4, true, (.sym (.v fun _ => n) fun e => [(.int .i64 (.v fun _ => (A (e.den))) (-9223372036854775808) 9223372036854775807), (.int .i64 (.v fun _ => (B (e.den))) (-9223372036854775808) 9223372036854775807), (.int .i64 (.v fun _ => (D (e.den))) (-9223372036854775808) 9223372036854775807), (.int .i64 (.v fun _ => (F (e.den))) (-9223372036854775808) 9223372036854775807)])⟩] (.bool (.v fun _ => vrs A B D F n)) [some ⟨57, 4, true, (.sym (.v fun _ => n) fun e => [(.int .i64 (.v fun _ => (A (e.den))) (-9223372036854775808) 9223372036854775807), (.int .i64 (.v fun _ => (B (e.den))) (-9223372036854775808) 9223372036854775807), (.int .i64 (.v fun _ => (D (e.den))) (-9223372036854775808) 9223372036854775807), (.int .i64 (.v fun _ => (F (e.den))) (-9223372036854775808) 9223372036854775807)])⟩] := by
  refine RunsTo.go env Try.func70 rfl Try.call70 rfl rfl (fun _ _ => (.loop [] [0] (Int) (fun x1 => ⟨spl 19 0 [(0, (.sl 0 4 (.lit 0) (.v fun _ => n) 1048576)), (3, (.int .i64 (.v fun _ => x1) 0 1048576))], [some ⟨57, 4, true, (.sym (.v fun _ => n) fun e => [(.int .i64 (.v fun _ => (A (e.den))) (-9223372036854775808) 9223372036854775807), (.int .i64 (.v fun _ => (B (e.den))) (-9223372036854775808) 9223372036854775807), (.int .i64 (.v fun _ => (D (e.den))) (-9223372036854775808) 9223372036854775807), (.int .i64 (.v fun _ => (F (e.den))) (-9223372036854775808) 9223372036854775807)])⟩], 1⟩) (fun x1 => (0 ≤ x1 ∧ x1 ≤ n) ∧ ∀ i, 0 ≤ i → i < x1 → rcB (A (i)) (B (i)) (D (i)) (F (i)) = true) (fun x1 => (n - x1).toNat) fun x1 => (.ite (.need (.need (.call (c_s_validRect ((A (x1))) ((B (x1))) ((D (x1))) ((F (x1)))) (.ite (.out .ret) (.next [0]))))) (.out .ret)))) (G := (0 ≤ n ∧ n ≤ 1048576) → (∀ e8 : E, ((0 ≤ e8.den ∧ e8.den < n) → (((-9223372036854775808) ≤ ((A (e8.den))) ∧ ((A (e8.den))) ≤ 9223372036854775807) ∧ (((-9223372036854775808) ≤ ((B (e8.den))) ∧ ((B (e8.den))) ≤ 9223372036854775807) ∧ (((-9223372036854775808) ≤ ((D (e8.den))) ∧ ((D (e8.den))) ≤ 9223372036854775807) ∧ ((-9223372036854775808) ≤ ((F (e8.den))) ∧ ((F (e8.den))) ≤ 9223372036854775807)))))) → ((∃ y2 : Int, (((0 ≤ y2 ∧ y2 ≤ n) ∧ ∀ i, 0 ≤ i → i < y2 → rcB (A (i)) (B (i)) (D (i)) (F (i)) = true) ∧ (((n = n) ∧ ((0 : Int) = y2)) ∧ ((n ≤ n) ∧ (∀ e3 : E, ((0 ≤ e3.den ∧ e3.den < n) → ((((A (e3.den))) = ((A (e3.den)))) ∧ ((((B (e3.den))) = ((B (e3.den)))) ∧ ((((D (e3.den))) = ((D (e3.den)))) ∧ (((F (e3.den))) = ((F (e3.den))))))))))))) ∧ (∀ x1 : Int, (((0 ≤ x1 ∧ x1 ≤ n) ∧ ∀ i, 0 ≤ i → i < x1 → rcB (A (i)) (B (i)) (D (i)) (F (i)) = true) → (((x1 < n) → ((((0 ≤ x1) ∧ (x1 < n))) ∧ ((x1 < n) ∧ (((((A (x1))) = ((A (x1)))) ∧ ((((B (x1))) = ((B (x1)))) ∧ ((((D (x1))) = ((D (x1)))) ∧ (((F (x1))) = ((F (x1))))))) ∧ ((((rcB ((A (x1))) ((B (x1))) ((D (x1))) ((F (x1)))) = false) → (((vrs A B D F n) = false) ∧ ((n ≤ n) ∧ (∀ e4 : E, ((0 ≤ e4.den ∧ e4.den < n) → ((((A (e4.den))) = ((A (e4.den)))) ∧ ((((B (e4.den))) = ((B (e4.den)))) ∧ ((((D (e4.den))) = ((D (e4.den)))) ∧ (((F (e4.den))) = ((F (e4.den)))))))))))) ∧ (((rcB ((A (x1))) ((B (x1))) ((D (x1))) ((F (x1)))) = true) → (∃ y5 : Int, (((0 ≤ y5 ∧ y5 ≤ n) ∧ ∀ i, 0 ≤ i → i < y5 → rcB (A (i)) (B (i)) (D (i)) (F (i)) = true) ∧ ((((n = n) ∧ (((x1 + 1) = y5) ∧ ((1 ≤ (x1 + 1) ∧ (x1 + 1) ≤ 1048577) → (0 ≤ y5 ∧ y5 ≤ 1048576)))) ∧ ((n ≤ n) ∧ (∀ e6 : E, ((0 ≤ e6.den ∧ e6.den < n) → ((((A (e6.den))) = ((A (e6.den)))) ∧ ((((B (e6.den))) = ((B (e6.den)))) ∧ ((((D (e6.den))) = ((D (e6.den)))) ∧ (((F (e6.den))) = ((F (e6.den))))))))))) ∧ ((n - y5).toNat < (n - x1).toNat)))))))))) ∧ ((n ≤ x1) → (((n ≤ 12) ↔ ((vrs A B D F n) = true)) ∧ ((n ≤ n) ∧ (∀ e7 : E, ((0 ≤ e7.den ∧ e7.den < n) → ((((A (e7.den))) = ((A (e7.den)))) ∧ ((((B (e7.den))) = ((B (e7.den)))) ∧ ((((D (e7.den))) = ((D (e7.den)))) ∧ (((F (e7.den))) = ((F (e7.den))))))))))))))))) (by kernel_rfl) ?_
  intro h1 h2
  refine ⟨?_, ?_⟩
  · refine ⟨0, ?_⟩
    try dsimp only
    refine ⟨?_, ?_, Int.le_refl _, fun _ => fun _ => ⟨rfl, ⟨rfl, ⟨rfl, rfl⟩⟩⟩⟩
    · exact ⟨by omega, fun i a b => by omega⟩
    · refine ⟨rfl, ?_⟩
      omega
  · intro j
    intro I1
    refine ⟨?_, ?_⟩
    · intro c9
      refine ⟨?_, ?_, ⟨rfl, ⟨rfl, ⟨rfl, rfl⟩⟩⟩, ?_, ?_⟩
      · omega
      · omega
      · intro c10
        refine ⟨?_, Int.le_refl _, fun _ => fun _ => ⟨rfl, ⟨rfl, ⟨rfl, rfl⟩⟩⟩⟩
        exact vrs_n (j := j) (by omega) (by omega) (by assumption)
      · intro c11
        refine ⟨j + 1, ?_⟩
        try dsimp only
        refine ⟨?_, ?_, ?_⟩
        · refine ⟨by omega, fun i a b => ?_⟩; by_cases e : i = j; (rw [e]; assumption); exact I1.2 i a (by omega)
        · refine ⟨?_, Int.le_refl _, fun _ => fun _ => ⟨rfl, ⟨rfl, ⟨rfl, rfl⟩⟩⟩⟩
          refine ⟨rfl, ?_, ?_⟩
          · omega
          · intro c12
            omega
        · omega
    · intro c13
      refine ⟨?_, Int.le_refl _, fun _ => fun _ => ⟨rfl, ⟨rfl, ⟨rfl, rfl⟩⟩⟩⟩
      exact vrs_all (fun i a b => I1.2 i a (by omega))
def c_s_validRects (A : Int → Int) (B : Int → Int) (D : Int → Int) (F : Int → Int) (n : Int) : Cn Try.prog := ⟨_, _, _, _, _, s_validRects A B D F n⟩
theorem s_CoveredArea (A : Int → Int) (B : Int → Int) (D : Int → Int) (F : Int → Int) (n : Int) (d : Int) : RunsTo Try.prog 35 [(.sl 0 4 (.lit 0) (.v fun _ => n) 1048576), (.int .i64 (.v fun _ => d) (-9223372036854775808) 9223372036854775807)] [some ⟨57, 4, true, (.sym (.v fun _ => n) fun e => [(.int .i64 (.v fun _ => (A (e.den))) (-9223372036854775808) 9223372036854775807), (.int .i64 (.v fun _ => (B (e.den))) (-9223372036854775808) 9223372036854775807), (.int .i64 (.v fun _ => (D (e.den))) (-9223372036854775808) 9223372036854775807), (.int .i64 (.v fun _ => (F (e.den))) (-9223372036854775808) 9223372036854775807)])⟩] (.int .i64 (.v fun _ => cov A B D F n d) (-1) 4000000) [some ⟨57, 4, true, (.sym (.v fun _ => n) fun e => [(.int .i64 (.v fun _ => (A (e.den))) (-9223372036854775808) 9223372036854775807), (.int .i64 (.v fun _ => (B (e.den))) (-9223372036854775808) 9223372036854775807), (.int .i64 (.v fun _ => (D (e.den))) (-9223372036854775808) 9223372036854775807), (.int .i64 (.v fun _ => (F (e.den))) (-9223372036854775808) 9223372036854775807)])⟩] := by
  refine RunsTo.go env Try.func35 rfl Try.call35 rfl rfl (fun _ _ => (.call (c_s_validRects A B D F n) (.ite .ret (.ite .ret (.callH (c_s_coveredArea A B D F n d) .ret))))) (G := ((0 ≤ n ∧ n ≤ 1048576) ∧ ((-9223372036854775808) ≤ d ∧ d ≤ 9223372036854775807)) → (∀ e6 : E, ((0 ≤ e6.den ∧ e6.den < n) → (((-9223372036854775808) ≤ ((A (e6.den))) ∧ ((A (e6.den))) ≤ 9223372036854775807) ∧ (((-9223372036854775808) ≤ ((B (e6.den))) ∧ ((B (e6.den))) ≤ 9223372036854775807) ∧ (((-9223372036854775808) ≤ ((D (e6.den))) ∧ ((D (e6.den))) ≤ 9223372036854775807) ∧ ((-9223372036854775808) ≤ ((F (e6.den))) ∧ ((F (e6.den))) ≤ 9223372036854775807)))))) → ((n = n) ∧ (((n ≤ n) ∧ (∀ e1 : E, ((0 ≤ e1.den ∧ e1.den < n) → ((((A (e1.den))) = ((A (e1.den)))) ∧ ((((B (e1.den))) = ((B (e1.den)))) ∧ ((((D (e1.den))) = ((D (e1.den)))) ∧ (((F (e1.den))) = ((F (e1.den)))))))))) ∧ ((((vrs A B D F n) = false) → ((((-1) : Int) = (cov A B D F n d)) ∧ ((n ≤ n) ∧ (∀ e2 : E, ((0 ≤ e2.den ∧ e2.den < n) → ((((A (e2.den))) = ((A (e2.den)))) ∧ ((((B (e2.den))) = ((B (e2.den)))) ∧ ((((D (e2.den))) = ((D (e2.den)))) ∧ (((F (e2.den))) = ((F (e2.den)))))))))))) ∧ (((vrs A B D F n) = true) → (((d < 1) → ((((-1) : Int) = (cov A B D F n d)) ∧ ((n ≤ n) ∧ (∀ e3 : E, ((0 ≤ e3.den ∧ e3.den < n) → ((((A (e3.den))) = ((A (e3.den)))) ∧ ((((B (e3.den))) = ((B (e3.den)))) ∧ ((((D (e3.den))) = ((D (e3.den)))) ∧ (((F (e3.den))) = ((F (e3.den)))))))))))) ∧ ((1 ≤ d) → ((1 ≤ d) ∧ ((((n = n) ∧ ((n ≤ 1048576) → (n ≤ 12))) ∧ (d = d)) ∧ (((n ≤ n) ∧ (∀ e4 : E, ((0 ≤ e4.den ∧ e4.den < n) → (((((A (e4.den))) = ((A (e4.den)))) ∧ (((-9223372036854775808) ≤ ((A (e4.den))) ∧ ((A (e4.den))) ≤ 9223372036854775807) → ((-1000) ≤ ((A (e4.den))) ∧ ((A (e4.den))) ≤ 1000))) ∧ (((((B (e4.den))) = ((B (e4.den)))) ∧ (((-9223372036854775808) ≤ ((B (e4.den))) ∧ ((B (e4.den))) ≤ 9223372036854775807) → ((-1000) ≤ ((B (e4.den))) ∧ ((B (e4.den))) ≤ 1000))) ∧ (((((D (e4.den))) = ((D (e4.den)))) ∧ (((-9223372036854775808) ≤ ((D (e4.den))) ∧ ((D (e4.den))) ≤ 9223372036854775807) → ((-1000) ≤ ((D (e4.den))) ∧ ((D (e4.den))) ≤ 1000))) ∧ ((((F (e4.den))) = ((F (e4.den)))) ∧ (((-9223372036854775808) ≤ ((F (e4.den))) ∧ ((F (e4.den))) ≤ 9223372036854775807) → ((-1000) ≤ ((F (e4.den))) ∧ ((F (e4.den))) ≤ 1000))))))))) ∧ (((ua A B D F n d) = (cov A B D F n d)) ∧ ((n ≤ n) ∧ (∀ e5 : E, ((0 ≤ e5.den ∧ e5.den < n) → ((((A (e5.den))) = ((A (e5.den)))) ∧ ((((B (e5.den))) = ((B (e5.den)))) ∧ ((((D (e5.den))) = ((D (e5.den)))) ∧ (((F (e5.den))) = ((F (e5.den))))))))))))))))))))) (by kernel_rfl) ?_
  intro h1 h2
  refine ⟨rfl, ⟨Int.le_refl _, fun _ => fun _ => ⟨rfl, ⟨rfl, ⟨rfl, rfl⟩⟩⟩⟩, ?_, ?_⟩
  · intro c7
    refine ⟨?_, Int.le_refl _, fun _ => fun _ => ⟨rfl, ⟨rfl, ⟨rfl, rfl⟩⟩⟩⟩
    rw [cov_no (by first | exact .inl (by assumption) | exact .inr (by omega))]; done
  · intro c8
    refine ⟨?_, ?_⟩
    · intro c9
      refine ⟨?_, Int.le_refl _, fun _ => fun _ => ⟨rfl, ⟨rfl, ⟨rfl, rfl⟩⟩⟩⟩
      rw [cov_no (by first | exact .inl (by assumption) | exact .inr (by omega))]; done
    · intro c10
      refine ⟨?_, ?_, ?_, ?_, Int.le_refl _, fun _ => fun _ => ⟨rfl, ⟨rfl, ⟨rfl, rfl⟩⟩⟩⟩
      · omega
      · refine ⟨?_, rfl⟩
        refine ⟨rfl, ?_⟩
        intro c11
        have hv := vrs_ok (show vrs A B D F n = true by assumption); omega
      · refine ⟨Int.le_refl _, ?_⟩
        intro e4
        intro c12
        refine ⟨?_, ?_, ?_, rfl, ?_⟩
        · refine ⟨rfl, ?_⟩
          intro c13
          have hv := vrs_r (show vrs A B D F n = true by assumption) (r := e4.den) (by omega) (by omega); omega
        · refine ⟨rfl, ?_⟩
          intro c14
          have hv := vrs_r (show vrs A B D F n = true by assumption) (r := e4.den) (by omega) (by omega); omega
        · refine ⟨rfl, ?_⟩
          intro c15
          have hv := vrs_r (show vrs A B D F n = true by assumption) (r := e4.den) (by omega) (by omega); omega
        · intro c16
          have hv := vrs_r (show vrs A B D F n = true by assumption) (r := e4.den) (by omega) (by omega); omega
      · exact (cov_yes (by assumption) (by omega)).symm
def c_s_CoveredArea (A : Int → Int) (B : Int → Int) (D : Int → Int) (F : Int → Int) (n : Int) (d : Int) : Cn Try.prog := ⟨_, _, _, _, _, s_CoveredArea A B D F n d⟩
theorem i_CoveredArea (A : Int → Int) (B : Int → Int) (D : Int → Int) (F : Int → Int) (n : Int) (d : Int) : RunsTo Try.prog 37 [(.sl 0 4 (.lit 0) (.v fun _ => n) 1048576), (.int .i64 (.v fun _ => d) (-9223372036854775808) 9223372036854775807)] [some ⟨57, 4, true, (.sym (.v fun _ => n) fun e => [(.int .i64 (.v fun _ => (A (e.den))) (-9223372036854775808) 9223372036854775807), (.int .i64 (.v fun _ => (B (e.den))) (-9223372036854775808) 9223372036854775807), (.int .i64 (.v fun _ => (D (e.den))) (-9223372036854775808) 9223372036854775807), (.int .i64 (.v fun _ => (F (e.den))) (-9223372036854775808) 9223372036854775807)])⟩] (.int .i64 (.v fun _ => cov A B D F n d) (-1) 4000000) [some ⟨57, 4, true, (.sym (.v fun _ => n) fun e => [(.int .i64 (.v fun _ => (A (e.den))) (-9223372036854775808) 9223372036854775807), (.int .i64 (.v fun _ => (B (e.den))) (-9223372036854775808) 9223372036854775807), (.int .i64 (.v fun _ => (D (e.den))) (-9223372036854775808) 9223372036854775807), (.int .i64 (.v fun _ => (F (e.den))) (-9223372036854775808) 9223372036854775807)])⟩] := by
  refine RunsTo.go env Try.func37 rfl Try.call37 rfl rfl (fun _ _ => (.call (c_i_ValidRects A B D F n) (.ite .ret (.ite .ret (.callF (c_i_cells A B D F n) (.loop [] [0, 1] (Int) (fun x5 => ⟨spl 43 0 [(1, (.int .i64 (.v fun _ => d) (-9223372036854775808) 9223372036854775807)), (4, (.int .i64 (.lit 0) 0 0)), (5, (.int .i64 (.v fun _ => smf (cvT A B D F n d) x5.toNat) 0 2400000000)), (17, (.sl 1 5 (.lit 0) (.v fun _ => clN A B D F n) 600)), (18, (.int .i64 (.v fun _ => clN A B D F n) 0 600)), (19, (.int .i64 (.v fun _ => x5) 0 600))], [some ⟨57, 4, true, (.sym (.v fun _ => n) fun e => [(.int .i64 (.v fun _ => ((A (e.den)))) (-1000) 1000), (.int .i64 (.v fun _ => ((B (e.den)))) (-1000) 1000), (.int .i64 (.v fun _ => ((D (e.den)))) (-1000) 1000), (.int .i64 (.v fun _ => ((F (e.den)))) (-1000) 1000)])⟩, some ⟨88, 5, true, (.sym (.v fun _ => clN A B D F n) fun e => [(.int .i64 (.v fun _ => clA A B D F n (e.den)) (-1000) 1000), (.int .i64 (.v fun _ => clB A B D F n (e.den)) (-1000) 1000), (.int .i64 (.v fun _ => clD A B D F n (e.den)) (-1000) 1000), (.int .i64 (.v fun _ => clF A B D F n (e.den)) (-1000) 1000), (.int .i64 (.v fun _ => clK A B D F n (e.den)) 0 12)])⟩], 1⟩) (fun x5 => 0 ≤ x5 ∧ x5 ≤ clN A B D F n) (fun x5 => (clN A B D F n - x5).toNat) fun x5 => (.ite (.need (.need (.ite (.callF (c_i_minus (clD A B D F n (x5)) (clF A B D F n (x5)) (clA A B D F n (x5)) (clB A B D F n (x5))) (.next [0, 1])) (.next [0, 1])))) (.out .ret)))))))) (G := ((0 ≤ n ∧ n ≤ 1048576) ∧ ((-9223372036854775808) ≤ d ∧ d ≤ 9223372036854775807)) → (∀ e16 : E, ((0 ≤ e16.den ∧ e16.den < n) → (((-9223372036854775808) ≤ ((A (e16.den))) ∧ ((A (e16.den))) ≤ 9223372036854775807) ∧ (((-9223372036854775808) ≤ ((B (e16.den))) ∧ ((B (e16.den))) ≤ 9223372036854775807) ∧ (((-9223372036854775808) ≤ ((D (e16.den))) ∧ ((D (e16.den))) ≤ 9223372036854775807) ∧ ((-9223372036854775808) ≤ ((F (e16.den))) ∧ ((F (e16.den))) ≤ 9223372036854775807)))))) → ((n = n) ∧ (((n ≤ n) ∧ (∀ e1 : E, ((0 ≤ e1.den ∧ e1.den < n) → ((((A (e1.den))) = ((A (e1.den)))) ∧ ((((B (e1.den))) = ((B (e1.den)))) ∧ ((((D (e1.den))) = ((D (e1.den)))) ∧ (((F (e1.den))) = ((F (e1.den)))))))))) ∧ ((((vrs A B D F n) = false) → ((((-1) : Int) = (cov A B D F n d)) ∧ ((n ≤ n) ∧ (∀ e2 : E, ((0 ≤ e2.den ∧ e2.den < n) → ((((A (e2.den))) = ((A (e2.den)))) ∧ ((((B (e2.den))) = ((B (e2.den)))) ∧ ((((D (e2.den))) = ((D (e2.den)))) ∧ (((F (e2.den))) = ((F (e2.den)))))))))))) ∧ (((vrs A B D F n) = true) → (((d < 1) → ((((-1) : Int) = (cov A B D F n d)) ∧ ((n ≤ n) ∧ (∀ e3 : E, ((0 ≤ e3.den ∧ e3.den < n) → ((((A (e3.den))) = ((A (e3.den)))) ∧ ((((B (e3.den))) = ((B (e3.den)))) ∧ ((((D (e3.den))) = ((D (e3.den)))) ∧ (((F (e3.den))) = ((F (e3.den)))))))))))) ∧ ((1 ≤ d) → (((n = n) ∧ ((n ≤ 1048576) → (n ≤ 12))) ∧ (((n ≤ n) ∧ (∀ e4 : E, ((0 ≤ e4.den ∧ e4.den < n) → (((((A (e4.den))) = ((A (e4.den)))) ∧ (((-9223372036854775808) ≤ ((A (e4.den))) ∧ ((A (e4.den))) ≤ 9223372036854775807) → ((-1000) ≤ ((A (e4.den))) ∧ ((A (e4.den))) ≤ 1000))) ∧ (((((B (e4.den))) = ((B (e4.den)))) ∧ (((-9223372036854775808) ≤ ((B (e4.den))) ∧ ((B (e4.den))) ≤ 9223372036854775807) → ((-1000) ≤ ((B (e4.den))) ∧ ((B (e4.den))) ≤ 1000))) ∧ (((((D (e4.den))) = ((D (e4.den)))) ∧ (((-9223372036854775808) ≤ ((D (e4.den))) ∧ ((D (e4.den))) ≤ 9223372036854775807) → ((-1000) ≤ ((D (e4.den))) ∧ ((D (e4.den))) ≤ 1000))) ∧ ((((F (e4.den))) = ((F (e4.den)))) ∧ (((-9223372036854775808) ≤ ((F (e4.den))) ∧ ((F (e4.den))) ≤ 9223372036854775807) → ((-1000) ≤ ((F (e4.den))) ∧ ((F (e4.den))) ≤ 1000))))))))) ∧ ((0 ≤ (clN A B D F n) ∧ (clN A B D F n) ≤ 600) → ((∃ y6 : Int, ((0 ≤ y6 ∧ y6 ≤ clN A B D F n) ∧ (((d = d) ∧ (((0 : Int) = (smf (cvT A B D F n d) y6.toNat)) ∧ (((clN A B D F n) = (clN A B D F n)) ∧ (((clN A B D F n) = (clN A B D F n)) ∧ ((0 : Int) = y6))))) ∧ (((n ≤ n) ∧ (∀ e8 : E, ((0 ≤ e8.den ∧ e8.den < n) → ((((A (e8.den))) = ((A (e8.den)))) ∧ ((((B (e8.den))) = ((B (e8.den)))) ∧ ((((D (e8.den))) = ((D (e8.den)))) ∧ (((F (e8.den))) = ((F (e8.den)))))))))) ∧ (((clN A B D F n) ≤ (clN A B D F n)) ∧ (∀ e7 : E, ((0 ≤ e7.den ∧ e7.den < (clN A B D F n)) → (((clA A B D F n (e7.den)) = (clA A B D F n (e7.den))) ∧ (((clB A B D F n (e7.den)) = (clB A B D F n (e7.den))) ∧ (((clD A B D F n (e7.den)) = (clD A B D F n (e7.den))) ∧ (((clF A B D F n (e7.den)) = (clF A B D F n (e7.den))) ∧ ((clK A B D F n (e7.den)) = (clK A B D F n (e7.den)))))))))))))) ∧ (∀ x5 : Int, ((0 ≤ x5 ∧ x5 ≤ clN A B D F n) → (((x5 < (clN A B D F n)) → ((((0 ≤ x5) ∧ (x5 < (clN A B D F n)))) ∧ ((x5 < (clN A B D F n)) ∧ (((d ≤ (clK A B D F n (x5))) → (((((clD A B D F n (x5)) = (clD A B D F n (x5))) ∧ ((clF A B D F n (x5)) = (clF A B D F n (x5)))) ∧ (((clA A B D F n (x5)) = (clA A B D F n (x5))) ∧ ((clB A B D F n (x5)) = (clB A B D F n (x5))))) ∧ ((((-8000) ≤ ((clD A B D F n (x5)) - (clA A B D F n (x5))) ∧ ((clD A B D F n (x5)) - (clA A B D F n (x5))) ≤ 8000) ∧ ((-8000) ≤ ((clF A B D F n (x5)) - (clB A B D F n (x5))) ∧ ((clF A B D F n (x5)) - (clB A B D F n (x5))) ≤ 8000)) → (∃ y9 : Int, ((0 ≤ y9 ∧ y9 ≤ clN A B D F n) ∧ ((((d = d) ∧ (((((smf (cvT A B D F n d) x5.toNat) + (((clD A B D F n (x5)) - (clA A B D F n (x5))) * ((clF A B D F n (x5)) - (clB A B D F n (x5))))) = (smf (cvT A B D F n d) y9.toNat)) ∧ (((-64000000) ≤ ((smf (cvT A B D F n d) x5.toNat) + (((clD A B D F n (x5)) - (clA A B D F n (x5))) * ((clF A B D F n (x5)) - (clB A B D F n (x5))))) ∧ ((smf (cvT A B D F n d) x5.toNat) + (((clD A B D F n (x5)) - (clA A B D F n (x5))) * ((clF A B D F n (x5)) - (clB A B D F n (x5))))) ≤ 2464000000) → (0 ≤ (smf (cvT A B D F n d) y9.toNat) ∧ (smf (cvT A B D F n d) y9.toNat) ≤ 2400000000))) ∧ (((clN A B D F n) = (clN A B D F n)) ∧ (((clN A B D F n) = (clN A B D F n)) ∧ (((x5 + 1) = y9) ∧ ((1 ≤ (x5 + 1) ∧ (x5 + 1) ≤ 601) → (0 ≤ y9 ∧ y9 ≤ 600))))))) ∧ (((n ≤ n) ∧ (∀ e11 : E, ((0 ≤ e11.den ∧ e11.den < n) → ((((A (e11.den))) = ((A (e11.den)))) ∧ ((((B (e11.den))) = ((B (e11.den)))) ∧ ((((D (e11.den))) = ((D (e11.den)))) ∧ (((F (e11.den))) = ((F (e11.den)))))))))) ∧ (((clN A B D F n) ≤ (clN A B D F n)) ∧ (∀ e10 : E, ((0 ≤ e10.den ∧ e10.den < (clN A B D F n)) → (((clA A B D F n (e10.den)) = (clA A B D F n (e10.den))) ∧ (((clB A B D F n (e10.den)) = (clB A B D F n (e10.den))) ∧ (((clD A B D F n (e10.den)) = (clD A B D F n (e10.den))) ∧ (((clF A B D F n (e10.den)) = (clF A B D F n (e10.den))) ∧ ((clK A B D F n (e10.den)) = (clK A B D F n (e10.den)))))))))))) ∧ ((clN A B D F n - y9).toNat < (clN A B D F n - x5).toNat))))))) ∧ (((clK A B D F n (x5)) < d) → (∃ y12 : Int, ((0 ≤ y12 ∧ y12 ≤ clN A B D F n) ∧ ((((d = d) ∧ (((smf (cvT A B D F n d) x5.toNat) = (smf (cvT A B D F n d) y12.toNat)) ∧ (((clN A B D F n) = (clN A B D F n)) ∧ (((clN A B D F n) = (clN A B D F n)) ∧ (((x5 + 1) = y12) ∧ ((1 ≤ (x5 + 1) ∧ (x5 + 1) ≤ 601) → (0 ≤ y12 ∧ y12 ≤ 600))))))) ∧ (((n ≤ n) ∧ (∀ e14 : E, ((0 ≤ e14.den ∧ e14.den < n) → ((((A (e14.den))) = ((A (e14.den)))) ∧ ((((B (e14.den))) = ((B (e14.den)))) ∧ ((((D (e14.den))) = ((D (e14.den)))) ∧ (((F (e14.den))) = ((F (e14.den)))))))))) ∧ (((clN A B D F n) ≤ (clN A B D F n)) ∧ (∀ e13 : E, ((0 ≤ e13.den ∧ e13.den < (clN A B D F n)) → (((clA A B D F n (e13.den)) = (clA A B D F n (e13.den))) ∧ (((clB A B D F n (e13.den)) = (clB A B D F n (e13.den))) ∧ (((clD A B D F n (e13.den)) = (clD A B D F n (e13.den))) ∧ (((clF A B D F n (e13.den)) = (clF A B D F n (e13.den))) ∧ ((clK A B D F n (e13.den)) = (clK A B D F n (e13.den)))))))))))) ∧ ((clN A B D F n - y12).toNat < (clN A B D F n - x5).toNat))))))))) ∧ (((clN A B D F n) ≤ x5) → ((((smf (cvT A B D F n d) x5.toNat) = (cov A B D F n d)) ∧ ((0 ≤ (smf (cvT A B D F n d) x5.toNat) ∧ (smf (cvT A B D F n d) x5.toNat) ≤ 2400000000) → ((-1) ≤ (cov A B D F n d) ∧ (cov A B D F n d) ≤ 4000000))) ∧ ((n ≤ n) ∧ (∀ e15 : E, ((0 ≤ e15.den ∧ e15.den < n) → ((((A (e15.den))) = ((A (e15.den)))) ∧ ((((B (e15.den))) = ((B (e15.den)))) ∧ ((((D (e15.den))) = ((D (e15.den)))) ∧ (((F (e15.den))) = ((F (e15.den)))))))))))))))))))))))))) (by kernel_rfl) ?_
  intro h1 h2
  refine ⟨rfl, ⟨Int.le_refl _, fun _ => fun _ => ⟨rfl, ⟨rfl, ⟨rfl, rfl⟩⟩⟩⟩, ?_, ?_⟩
  · intro c17
    refine ⟨?_, Int.le_refl _, fun _ => fun _ => ⟨rfl, ⟨rfl, ⟨rfl, rfl⟩⟩⟩⟩
    rw [cov_no (by first | exact .inl (by assumption) | exact .inr (by omega))]; done
  · intro c18
    refine ⟨?_, ?_⟩
    · intro c19
      refine ⟨?_, Int.le_refl _, fun _ => fun _ => ⟨rfl, ⟨rfl, ⟨rfl, rfl⟩⟩⟩⟩
      rw [cov_no (by first | exact .inl (by assumption) | exact .inr (by omega))]; done
    · intro c20
      refine ⟨?_, ?_, ?_⟩
      · refine ⟨rfl, ?_⟩
        intro c21
        have hv := vrs_ok (show vrs A B D F n = true by assumption); omega
      · refine ⟨Int.le_refl _, ?_⟩
        intro e4
        intro c22
        refine ⟨?_, ?_, ?_, rfl, ?_⟩
        · refine ⟨rfl, ?_⟩
          intro c23
          have hv := vrs_r (show vrs A B D F n = true by assumption) (r := e4.den) (by omega) (by omega); omega
        · refine ⟨rfl, ?_⟩
          intro c24
          have hv := vrs_r (show vrs A B D F n = true by assumption) (r := e4.den) (by omega) (by omega); omega
        · refine ⟨rfl, ?_⟩
          intro c25
          have hv := vrs_r (show vrs A B D F n = true by assumption) (r := e4.den) (by omega) (by omega); omega
        · intro c26
          have hv := vrs_r (show vrs A B D F n = true by assumption) (r := e4.den) (by omega) (by omega); omega
      · intro c27
        refine ⟨?_, ?_⟩
        · refine ⟨0, ?_⟩
          try dsimp only
          refine ⟨?_, ?_, ⟨Int.le_refl _, fun _ => fun _ => ⟨rfl, ⟨rfl, ⟨rfl, rfl⟩⟩⟩⟩, Int.le_refl _, fun _ => fun _ => ⟨rfl, ⟨rfl, ⟨rfl, ⟨rfl, rfl⟩⟩⟩⟩⟩
          · omega
          · refine ⟨rfl, ?_, rfl, rfl, ?_⟩
            · rfl
            · omega
        · intro j
          intro I1
          refine ⟨?_, ?_⟩
          · intro c28
            refine ⟨?_, ?_, ?_, ?_⟩
            · omega
            · omega
            · intro c29
              refine ⟨⟨⟨rfl, rfl⟩, ⟨rfl, rfl⟩⟩, ?_⟩
              intro c30
              refine ⟨j + 1, ?_⟩
              try dsimp only
              refine ⟨?_, ?_, ?_⟩
              · omega
              · refine ⟨?_, ⟨Int.le_refl _, fun _ => fun _ => ⟨rfl, ⟨rfl, ⟨rfl, rfl⟩⟩⟩⟩, Int.le_refl _, fun _ => fun _ => ⟨rfl, ⟨rfl, ⟨rfl, ⟨rfl, rfl⟩⟩⟩⟩⟩
                refine ⟨rfl, ?_, rfl, rfl, ?_, ?_⟩
                · refine ⟨?_, ?_⟩
                  · have hq : cvT A B D F n d j = (clD A B D F n j - clA A B D F n j) * (clF A B D F n j - clB A B D F n j) := if_pos (by omega); rw [smf_next (by omega), hq]; done
                  · intro c31
                    have hv := vrs_ok (show vrs A B D F n = true by assumption); have hb := cvt_bd (d := d) (j := j + 1) ⟨h1.1.1, hv.1⟩ hv.2.1 (by omega) (by omega); omega
                · omega
                · intro c32
                  omega
              · omega
            · intro c33
              refine ⟨j + 1, ?_⟩
              try dsimp only
              refine ⟨?_, ?_, ?_⟩
              · omega
              · refine ⟨?_, ⟨Int.le_refl _, fun _ => fun _ => ⟨rfl, ⟨rfl, ⟨rfl, rfl⟩⟩⟩⟩, Int.le_refl _, fun _ => fun _ => ⟨rfl, ⟨rfl, ⟨rfl, ⟨rfl, rfl⟩⟩⟩⟩⟩
                refine ⟨rfl, ?_, rfl, rfl, ?_, ?_⟩
                · have hq : cvT A B D F n d j = 0 := if_neg (by omega); rw [smf_next (by omega), hq, Int.add_zero]; done
                · omega
                · intro c34
                  omega
              · omega
          · intro c35
            refine ⟨?_, Int.le_refl _, fun _ => fun _ => ⟨rfl, ⟨rfl, ⟨rfl, rfl⟩⟩⟩⟩
            refine ⟨?_, ?_⟩
            · have hv := vrs_ok (show vrs A B D F n = true by assumption); have e : j = clN A B D F n := (by omega); rw [cov_yes (by assumption) (by omega), e]; exact cov_I h1.1.1 hv.2.1 (by omega)
            · intro c36
              exact cov_bd _ _ _ _ _ _
def c_i_CoveredArea (A : Int → Int) (B : Int → Int) (D : Int → Int) (F : Int → Int) (n : Int) (d : Int) : Cn Try.prog := ⟨_, _, _, _, _, i_CoveredArea A B D F n d⟩
theorem i_MaxDepth (A : Int → Int) (B : Int → Int) (D : Int → Int) (F : Int → Int) (n : Int) : RunsTo Try.prog 40 [(.sl 0 4 (.lit 0) (.v fun _ => n) 1048576)] [some ⟨57, 4, true, (.sym (.v fun _ => n) fun e => [(.int .i64 (.v fun _ => (A (e.den))) (-9223372036854775808) 9223372036854775807), (.int .i64 (.v fun _ => (B (e.den))) (-9223372036854775808) 9223372036854775807), (.int .i64 (.v fun _ => (D (e.den))) (-9223372036854775808) 9223372036854775807), (.int .i64 (.v fun _ => (F (e.den))) (-9223372036854775808) 9223372036854775807)])⟩] (.tup [(.int .i64 (.v fun _ => (mdv A B D F n).1) (-1) 12), (.agg [(.int .i64 (.v fun _ => (mdv A B D F n).2.1) (-1000) 1000), (.int .i64 (.v fun _ => (mdv A B D F n).2.2) (-1000) 1000)])]) [some ⟨57, 4, true, (.sym (.v fun _ => n) fun e => [(.int .i64 (.v fun _ => (A (e.den))) (-9223372036854775808) 9223372036854775807), (.int .i64 (.v fun _ => (B (e.den))) (-9223372036854775808) 9223372036854775807), (.int .i64 (.v fun _ => (D (e.den))) (-9223372036854775808) 9223372036854775807), (.int .i64 (.v fun _ => (F (e.den))) (-9223372036854775808) 9223372036854775807)])⟩] := by
  refine RunsTo.go env Try.func40 rfl Try.call40 rfl rfl (fun _ _ => (.call (c_i_ValidRects A B D F n) (.ite .ret (.callF (c_i_cells A B D F n) (.loop [] [0, 1, 2, 3] (Int) (fun x4 => ⟨spl 30 0 [(2, (.int .i64 (.lit 0) 0 0)), (3, (.ptr 1 2 (.lit 0) 0)), (4, (.ptr 2 5 (.lit 0) 0)), (12, (.sl 3 5 (.lit 0) (.v fun _ => clN A B D F n) 600)), (13, (.int .i64 (.v fun _ => clN A B D F n) 0 600)), (14, (.int .i64 (.v fun _ => x4) 0 600))], [some ⟨57, 4, true, (.sym (.v fun _ => n) fun e => [(.int .i64 (.v fun _ => ((A (e.den)))) (-1000) 1000), (.int .i64 (.v fun _ => ((B (e.den)))) (-1000) 1000), (.int .i64 (.v fun _ => ((D (e.den)))) (-1000) 1000), (.int .i64 (.v fun _ => ((F (e.den)))) (-1000) 1000)])⟩, some ⟨35, 2, true, (.lit [[(.int .i64 (.lit 0) 0 0), (.int .i64 (.lit 0) 0 0)]])⟩, some ⟨88, 5, true, (.lit [[(.int .i64 (.v fun _ => vz (clA A B D F n) (mjN (clK A B D F n) x4)) (-1000) 1000), (.int .i64 (.v fun _ => vz (clB A B D F n) (mjN (clK A B D F n) x4)) (-1000) 1000), (.int .i64 (.v fun _ => vz (clD A B D F n) (mjN (clK A B D F n) x4)) (-1000) 1000), (.int .i64 (.v fun _ => vz (clF A B D F n) (mjN (clK A B D F n) x4)) (-1000) 1000), (.int .i64 (.v fun _ => vz (clK A B D F n) (mjN (clK A B D F n) x4)) 0 12)]])⟩, some ⟨88, 5, true, (.sym (.v fun _ => clN A B D F n) fun e => [(.int .i64 (.v fun _ => clA A B D F n (e.den)) (-1000) 1000), (.int .i64 (.v fun _ => clB A B D F n (e.den)) (-1000) 1000), (.int .i64 (.v fun _ => clD A B D F n (e.den)) (-1000) 1000), (.int .i64 (.v fun _ => clF A B D F n (e.den)) (-1000) 1000), (.int .i64 (.v fun _ => clK A B D F n (e.den)) 0 12)])⟩], 1⟩) (fun x4 => 0 ≤ x4 ∧ x4 ≤ clN A B D F n) (fun x4 => (clN A B D F n - x4).toNat) fun x4 => (.ite (.need (.need (.ite (.next [0, 1, 2, 3]) (.next [0, 1, 2, 3])))) (.out .ret))))))) (G := (0 ≤ n ∧ n ≤ 1048576) → (∀ e15 : E, ((0 ≤ e15.den ∧ e15.den < n) → (((-9223372036854775808) ≤ ((A (e15.den))) ∧ ((A (e15.den))) ≤ 9223372036854775807) ∧ (((-9223372036854775808) ≤ ((B (e15.den))) ∧ ((B (e15.den))) ≤ 9223372036854775807) ∧ (((-9223372036854775808) ≤ ((D (e15.den))) ∧ ((D (e15.den))) ≤ 9223372036854775807) ∧ ((-9223372036854775808) ≤ ((F (e15.den))) ∧ ((F (e15.den))) ≤ 9223372036854775807)))))) → ((n = n) ∧ (((n ≤ n) ∧ (∀ e1 : E, ((0 ≤ e1.den ∧ e1.den < n) → ((((A (e1.den))) = ((A (e1.den)))) ∧ ((((B (e1.den))) = ((B (e1.den)))) ∧ ((((D (e1.den))) = ((D (e1.den)))) ∧ (((F (e1.den))) = ((F (e1.den)))))))))) ∧ ((((vrs A B D F n) = false) → (((((-1) : Int) = ((mdv A B D F n).1)) ∧ (((0 : Int) = ((mdv A B D F n).2.1)) ∧ ((0 : Int) = ((mdv A B D F n).2.2)))) ∧ ((n ≤ n) ∧ (∀ e2 : E, ((0 ≤ e2.den ∧ e2.den < n) → ((((A (e2.den))) = ((A (e2.den)))) ∧ ((((B (e2.den))) = ((B (e2.den)))) ∧ ((((D (e2.den))) = ((D (e2.den)))) ∧ (((F (e2.den))) = ((F (e2.den)))))))))))) ∧ (((vrs A B D F n) = true) → (((n = n) ∧ ((n ≤ 1048576) → (n ≤ 12))) ∧ (((n ≤ n) ∧ (∀ e3 : E, ((0 ≤ e3.den ∧ e3.den < n) → (((((A (e3.den))) = ((A (e3.den)))) ∧ (((-9223372036854775808) ≤ ((A (e3.den))) ∧ ((A (e3.den))) ≤ 9223372036854775807) → ((-1000) ≤ ((A (e3.den))) ∧ ((A (e3.den))) ≤ 1000))) ∧ (((((B (e3.den))) = ((B (e3.den)))) ∧ (((-9223372036854775808) ≤ ((B (e3.den))) ∧ ((B (e3.den))) ≤ 9223372036854775807) → ((-1000) ≤ ((B (e3.den))) ∧ ((B (e3.den))) ≤ 1000))) ∧ (((((D (e3.den))) = ((D (e3.den)))) ∧ (((-9223372036854775808) ≤ ((D (e3.den))) ∧ ((D (e3.den))) ≤ 9223372036854775807) → ((-1000) ≤ ((D (e3.den))) ∧ ((D (e3.den))) ≤ 1000))) ∧ ((((F (e3.den))) = ((F (e3.den)))) ∧ (((-9223372036854775808) ≤ ((F (e3.den))) ∧ ((F (e3.den))) ≤ 9223372036854775807) → ((-1000) ≤ ((F (e3.den))) ∧ ((F (e3.den))) ≤ 1000))))))))) ∧ ((0 ≤ (clN A B D F n) ∧ (clN A B D F n) ≤ 600) → ((∃ y5 : Int, ((0 ≤ y5 ∧ y5 ≤ clN A B D F n) ∧ ((((clN A B D F n) = (clN A B D F n)) ∧ (((clN A B D F n) = (clN A B D F n)) ∧ ((0 : Int) = y5))) ∧ (((n ≤ n) ∧ (∀ e7 : E, ((0 ≤ e7.den ∧ e7.den < n) → ((((A (e7.den))) = ((A (e7.den)))) ∧ ((((B (e7.den))) = ((B (e7.den)))) ∧ ((((D (e7.den))) = ((D (e7.den)))) ∧ (((F (e7.den))) = ((F (e7.den)))))))))) ∧ ((((0 : Int) = (vz (clA A B D F n) (mjN (clK A B D F n) y5))) ∧ (((0 : Int) = (vz (clB A B D F n) (mjN (clK A B D F n) y5))) ∧ (((0 : Int) = (vz (clD A B D F n) (mjN (clK A B D F n) y5))) ∧ (((0 : Int) = (vz (clF A B D F n) (mjN (clK A B D F n) y5))) ∧ ((0 : Int) = (vz (clK A B D F n) (mjN (clK A B D F n) y5))))))) ∧ (((clN A B D F n) ≤ (clN A B D F n)) ∧ (∀ e6 : E, ((0 ≤ e6.den ∧ e6.den < (clN A B D F n)) → (((clA A B D F n (e6.den)) = (clA A B D F n (e6.den))) ∧ (((clB A B D F n (e6.den)) = (clB A B D F n (e6.den))) ∧ (((clD A B D F n (e6.den)) = (clD A B D F n (e6.den))) ∧ (((clF A B D F n (e6.den)) = (clF A B D F n (e6.den))) ∧ ((clK A B D F n (e6.den)) = (clK A B D F n (e6.den))))))))))))))) ∧ (∀ x4 : Int, ((0 ≤ x4 ∧ x4 ≤ clN A B D F n) → (((x4 < (clN A B D F n)) → ((((0 ≤ x4) ∧ (x4 < (clN A B D F n)))) ∧ ((x4 < (clN A B D F n)) ∧ ((((vz (clK A B D F n) (mjN (clK A B D F n) x4)) < (clK A B D F n (x4))) → (∃ y8 : Int, ((0 ≤ y8 ∧ y8 ≤ clN A B D F n) ∧ (((((clN A B D F n) = (clN A B D F n)) ∧ (((clN A B D F n) = (clN A B D F n)) ∧ (((x4 + 1) = y8) ∧ ((1 ≤ (x4 + 1) ∧ (x4 + 1) ≤ 601) → (0 ≤ y8 ∧ y8 ≤ 600))))) ∧ (((n ≤ n) ∧ (∀ e10 : E, ((0 ≤ e10.den ∧ e10.den < n) → ((((A (e10.den))) = ((A (e10.den)))) ∧ ((((B (e10.den))) = ((B (e10.den)))) ∧ ((((D (e10.den))) = ((D (e10.den)))) ∧ (((F (e10.den))) = ((F (e10.den)))))))))) ∧ ((((clA A B D F n (x4)) = (vz (clA A B D F n) (mjN (clK A B D F n) y8))) ∧ (((clB A B D F n (x4)) = (vz (clB A B D F n) (mjN (clK A B D F n) y8))) ∧ (((clD A B D F n (x4)) = (vz (clD A B D F n) (mjN (clK A B D F n) y8))) ∧ (((clF A B D F n (x4)) = (vz (clF A B D F n) (mjN (clK A B D F n) y8))) ∧ ((clK A B D F n (x4)) = (vz (clK A B D F n) (mjN (clK A B D F n) y8))))))) ∧ (((clN A B D F n) ≤ (clN A B D F n)) ∧ (∀ e9 : E, ((0 ≤ e9.den ∧ e9.den < (clN A B D F n)) → (((clA A B D F n (e9.den)) = (clA A B D F n (e9.den))) ∧ (((clB A B D F n (e9.den)) = (clB A B D F n (e9.den))) ∧ (((clD A B D F n (e9.den)) = (clD A B D F n (e9.den))) ∧ (((clF A B D F n (e9.den)) = (clF A B D F n (e9.den))) ∧ ((clK A B D F n (e9.den)) = (clK A B D F n (e9.den))))))))))))) ∧ ((clN A B D F n - y8).toNat < (clN A B D F n - x4).toNat))))) ∧ (((clK A B D F n (x4)) ≤ (vz (clK A B D F n) (mjN (clK A B D F n) x4))) → (∃ y11 : Int, ((0 ≤ y11 ∧ y11 ≤ clN A B D F n) ∧ (((((clN A B D F n) = (clN A B D F n)) ∧ (((clN A B D F n) = (clN A B D F n)) ∧ (((x4 + 1) = y11) ∧ ((1 ≤ (x4 + 1) ∧ (x4 + 1) ≤ 601) → (0 ≤ y11 ∧ y11 ≤ 600))))) ∧ (((n ≤ n) ∧ (∀ e13 : E, ((0 ≤ e13.den ∧ e13.den < n) → ((((A (e13.den))) = ((A (e13.den)))) ∧ ((((B (e13.den))) = ((B (e13.den)))) ∧ ((((D (e13.den))) = ((D (e13.den)))) ∧ (((F (e13.den))) = ((F (e13.den)))))))))) ∧ ((((vz (clA A B D F n) (mjN (clK A B D F n) x4)) = (vz (clA A B D F n) (mjN (clK A B D F n) y11))) ∧ (((vz (clB A B D F n) (mjN (clK A B D F n) x4)) = (vz (clB A B D F n) (mjN (clK A B D F n) y11))) ∧ (((vz (clD A B D F n) (mjN (clK A B D F n) x4)) = (vz (clD A B D F n) (mjN (clK A B D F n) y11))) ∧ (((vz (clF A B D F n) (mjN (clK A B D F n) x4)) = (vz (clF A B D F n) (mjN (clK A B D F n) y11))) ∧ ((vz (clK A B D F n) (mjN (clK A B D F n) x4)) = (vz (clK A B D F n) (mjN (clK A B D F n) y11))))))) ∧ (((clN A B D F n) ≤ (clN A B D F n)) ∧ (∀ e12 : E, ((0 ≤ e12.den ∧ e12.den < (clN A B D F n)) → (((clA A B D F n (e12.den)) = (clA A B D F n (e12.den))) ∧ (((clB A B D F n (e12.den)) = (clB A B D F n (e12.den))) ∧ (((clD A B D F n (e12.den)) = (clD A B D F n (e12.den))) ∧ (((clF A B D F n (e12.den)) = (clF A B D F n (e12.den))) ∧ ((clK A B D F n (e12.den)) = (clK A B D F n (e12.den))))))))))))) ∧ ((clN A B D F n - y11).toNat < (clN A B D F n - x4).toNat))))))))) ∧ (((clN A B D F n) ≤ x4) → ((((vz (clK A B D F n) (mjN (clK A B D F n) x4)) = ((mdv A B D F n).1)) ∧ (((vz (clA A B D F n) (mjN (clK A B D F n) x4)) = ((mdv A B D F n).2.1)) ∧ ((vz (clB A B D F n) (mjN (clK A B D F n) x4)) = ((mdv A B D F n).2.2)))) ∧ ((n ≤ n) ∧ (∀ e14 : E, ((0 ≤ e14.den ∧ e14.den < n) → ((((A (e14.den))) = ((A (e14.den)))) ∧ ((((B (e14.den))) = ((B (e14.den)))) ∧ ((((D (e14.den))) = ((D (e14.den)))) ∧ (((F (e14.den))) = ((F (e14.den)))))))))))))))))))))))) (by kernel_rfl) ?_
  intro h1 h2
  refine ⟨rfl, ⟨Int.le_refl _, fun _ => fun _ => ⟨rfl, ⟨rfl, ⟨rfl, rfl⟩⟩⟩⟩, ?_, ?_⟩
  · intro c16
    refine ⟨?_, Int.le_refl _, fun _ => fun _ => ⟨rfl, ⟨rfl, ⟨rfl, rfl⟩⟩⟩⟩
    refine ⟨?_, ?_, ?_⟩
    · exact (mdv_no_1 (by assumption)).symm
    · exact (mdv_no_2 (by assumption)).symm
    · exact (mdv_no_3 (by assumption)).symm
  · intro c17
    refine ⟨?_, ?_, ?_⟩
    · refine ⟨rfl, ?_⟩
      intro c18
      have hv := vrs_ok (show vrs A B D F n = true by assumption); omega
    · refine ⟨Int.le_refl _, ?_⟩
      intro e3
      intro c19
      refine ⟨?_, ?_, ?_, rfl, ?_⟩
      · refine ⟨rfl, ?_⟩
        intro c20
        have hv := vrs_r (show vrs A B D F n = true by assumption) (r := e3.den) (by omega) (by omega); omega
      · refine ⟨rfl, ?_⟩
        intro c21
        have hv := vrs_r (show vrs A B D F n = true by assumption) (r := e3.den) (by omega) (by omega); omega
      · refine ⟨rfl, ?_⟩
        intro c22
        have hv := vrs_r (show vrs A B D F n = true by assumption) (r := e3.den) (by omega) (by omega); omega
      · intro c23
        have hv := vrs_r (show vrs A B D F n = true by assumption) (r := e3.den) (by omega) (by omega); omega
    · intro c24
      refine ⟨?_, ?_⟩
      · refine ⟨0, ?_⟩
        try dsimp only
        refine ⟨?_, ?_, ⟨Int.le_refl _, fun _ => fun _ => ⟨rfl, ⟨rfl, ⟨rfl, rfl⟩⟩⟩⟩, ?_, Int.le_refl _, fun _ => fun _ => ⟨rfl, ⟨rfl, ⟨rfl, ⟨rfl, rfl⟩⟩⟩⟩⟩
        · omega
        · refine ⟨rfl, rfl, ?_⟩
          omega
        · refine ⟨?_, ?_, ?_, ?_, ?_⟩
          · exact (mj_0 _ _).symm
          · exact (mj_0 _ _).symm
          · exact (mj_0 _ _).symm
          · exact (mj_0 _ _).symm
          · exact (mj_0 _ _).symm
      · intro j
        intro I1
        refine ⟨?_, ?_⟩
        · intro c25
          refine ⟨?_, ?_, ?_, ?_⟩
          · omega
          · omega
          · intro c26
            refine ⟨j + 1, ?_⟩
            try dsimp only
            refine ⟨?_, ?_, ?_⟩
            · omega
            · refine ⟨?_, ⟨Int.le_refl _, fun _ => fun _ => ⟨rfl, ⟨rfl, ⟨rfl, rfl⟩⟩⟩⟩, ?_, Int.le_refl _, fun _ => fun _ => ⟨rfl, ⟨rfl, ⟨rfl, ⟨rfl, rfl⟩⟩⟩⟩⟩
              · refine ⟨rfl, rfl, ?_, ?_⟩
                · omega
                · intro c27
                  omega
              · refine ⟨?_, ?_, ?_, ?_, ?_⟩
                · exact (mj_yes (by omega) (by omega) _).symm
                · exact (mj_yes (by omega) (by omega) _).symm
                · exact (mj_yes (by omega) (by omega) _).symm
                · exact (mj_yes (by omega) (by omega) _).symm
                · exact (mj_yes (by omega) (by omega) _).symm
            · omega
          · intro c28
            refine ⟨j + 1, ?_⟩
            try dsimp only
            refine ⟨?_, ?_, ?_⟩
            · omega
            · refine ⟨?_, ⟨Int.le_refl _, fun _ => fun _ => ⟨rfl, ⟨rfl, ⟨rfl, rfl⟩⟩⟩⟩, ?_, Int.le_refl _, fun _ => fun _ => ⟨rfl, ⟨rfl, ⟨rfl, ⟨rfl, rfl⟩⟩⟩⟩⟩
              · refine ⟨rfl, rfl, ?_, ?_⟩
                · omega
                · intro c29
                  omega
              · refine ⟨?_, ?_, ?_, ?_, ?_⟩
                · rw [mj_no (by omega) (by omega)]; done
                · rw [mj_no (by omega) (by omega)]; done
                · rw [mj_no (by omega) (by omega)]; done
                · rw [mj_no (by omega) (by omega)]; done
                · rw [mj_no (by omega) (by omega)]; done
            · omega
        · intro c30
          refine ⟨?_, Int.le_refl _, fun _ => fun _ => ⟨rfl, ⟨rfl, ⟨rfl, rfl⟩⟩⟩⟩
          refine ⟨?_, ?_, ?_⟩
          · have e : j = clN A B D F n := (by omega); have hm := md_I (A := A) (B := B) (D := D) (F := F) (n := n) h1.1; rw [e, mdv_yes (by assumption), ← hm]; done
          · have e : j = clN A B D F n := (by omega); have hm := md_I (A := A) (B := B) (D := D) (F := F) (n := n) h1.1; rw [e, mdv_yes (by assumption), ← hm]; done
          · have e : j = clN A B D F n := (by omega); have hm := md_I (A := A) (B := B) (D := D) (F := F) (n := n) h1.1; rw [e, mdv_yes (by assumption), ← hm]; done
def c_i_MaxDepth (A : Int → Int) (B : Int → Int) (D : Int → Int) (F : Int → Int) (n : Int) : Cn Try.prog := ⟨_, _, _, _, _, i_MaxDepth A B D F n⟩
theorem s_MaxDepth (A : Int → Int) (B : Int → Int) (D : Int → Int) (F : Int → Int) (n : Int) : RunsTo Try.prog 39 [(.sl 0 4 (.lit 0) (.v fun _ => n) 1048576)] [some ⟨57, 4, true, (.sym (.v fun _ => n) fun e => [(.int .i64 (.v fun _ => (A (e.den))) (-9223372036854775808) 9223372036854775807), (.int .i64 (.v fun _ => (B (e.den))) (-9223372036854775808) 9223372036854775807), (.int .i64 (.v fun _ => (D (e.den))) (-9223372036854775808) 9223372036854775807), (.int .i64 (.v fun _ => (F (e.den))) (-9223372036854775808) 9223372036854775807)])⟩] (.tup [(.int .i64 (.v fun _ => (mdv A B D F n).1) (-1) 12), (.agg [(.int .i64 (.v fun _ => (mdv A B D F n).2.1) (-1000) 1000), (.int .i64 (.v fun _ => (mdv A B D F n).2.2) (-1000) 1000)])]) [some ⟨57, 4, true, (.sym (.v fun _ => n) fun e => [(.int .i64 (.v fun _ => (A (e.den))) (-9223372036854775808) 9223372036854775807), (.int .i64 (.v fun _ => (B (e.den))) (-9223372036854775808) 9223372036854775807), (.int .i64 (.v fun _ => (D (e.den))) (-9223372036854775808) 9223372036854775807), (.int .i64 (.v fun _ => (F (e.den))) (-9223372036854775808) 9223372036854775807)])⟩] := by
  refine RunsTo.go env Try.func39 rfl Try.call39 rfl rfl (fun _ _ => (.call (c_s_validRects A B D F n) (.ite .ret (.callF (c_s_cells A B D F n) (.loop [] [0, 1, 2, 3, 4] (Int) (fun x4 => ⟨spl 58 0 [(0, (.sl 0 4 (.lit 0) (.v fun _ => n) 1048576)), (2, (.int .i64 (.lit 0) 0 0)), (3, (.ptr 1 2 (.lit 0) 0)), (4, (.sl 2 1 (.lit 0) (.v fun _ => uN A D n) 24)), (5, (.sl 3 1 (.lit 0) (.v fun _ => uN B F n) 24)), (6, (.int .i64 (.v fun _ => (mdQ A B D F n x4 0).1) 0 12)), (7, (.ptr 4 2 (.lit 0) 0)), (8, (.int .i64 (.v fun _ => x4) 0 24))], [some ⟨57, 4, true, (.sym (.v fun _ => n) fun e => [(.int .i64 (.v fun _ => ((A (e.den)))) (-1000) 1000), (.int .i64 (.v fun _ => ((B (e.den)))) (-1000) 1000), (.int .i64 (.v fun _ => ((D (e.den)))) (-1000) 1000), (.int .i64 (.v fun _ => ((F (e.den)))) (-1000) 1000)])⟩, some ⟨35, 2, true, (.lit [[(.int .i64 (.lit 0) 0 0), (.int .i64 (.lit 0) 0 0)]])⟩, some ⟨3, 1, true, (.sym (.v fun _ => uN A D n) fun e => [(.int .i64 (.v fun _ => uX A D n (e.den)) (-1000) 1000)])⟩, some ⟨3, 1, true, (.sym (.v fun _ => uN B F n) fun e => [(.int .i64 (.v fun _ => uX B F n (e.den)) (-1000) 1000)])⟩, some ⟨35, 2, true, (.lit [[(.int .i64 (.v fun _ => (mdQ A B D F n x4 0).2.1) (-1000) 1000), (.int .i64 (.v fun _ => (mdQ A B D F n x4 0).2.2) (-1000) 1000)]])⟩], 1⟩) (fun x4 => 0 ≤ x4 ∧ x4 ≤ uN A D n) (fun x4 => (uN A D n - x4).toNat) fun x4 => (.ite (.loop [] [0, 1, 2, 3, 4] (Int) (fun x9 => ⟨spl 58 0 [(0, (.sl 0 4 (.lit 0) (.v fun _ => n) 1048576)), (2, (.int .i64 (.lit 0) 0 0)), (3, (.ptr 1 2 (.lit 0) 0)), (4, (.sl 2 1 (.lit 0) (.v fun _ => uN A D n) 24)), (5, (.sl 3 1 (.lit 0) (.v fun _ => uN B F n) 24)), (6, (.int .i64 (.v fun _ => (mdQ A B D F n x4 x9).1) 0 12)), (7, (.ptr 4 2 (.lit 0) 0)), (8, (.int .i64 (.v fun _ => x4) 0 24)), (9, (.int .i64 (.v fun _ => x9) 0 24)), (21, (.int .i64 (.v fun _ => x4) 0 24)), (22, (.sl 2 1 (.lit 0) (.v fun _ => uN A D n) 24)), (23, (.int .i64 (.v fun _ => uN A D n) 0 24)), (24, (.bool (.lt (.v fun _ => x4) (.v fun _ => uN A D n))))], [some ⟨57, 4, true, (.sym (.v fun _ => n) fun e => [(.int .i64 (.v fun _ => ((A (e.den)))) (-1000) 1000), (.int .i64 (.v fun _ => ((B (e.den)))) (-1000) 1000), (.int .i64 (.v fun _ => ((D (e.den)))) (-1000) 1000), (.int .i64 (.v fun _ => ((F (e.den)))) (-1000) 1000)])⟩, some ⟨35, 2, true, (.lit [[(.int .i64 (.lit 0) 0 0), (.int .i64 (.lit 0) 0 0)]])⟩, some ⟨3, 1, true, (.sym (.v fun _ => uN A D n) fun e => [(.int .i64 (.v fun _ => uX A D n (e.den)) (-1000) 1000)])⟩, some ⟨3, 1, true, (.sym (.v fun _ => uN B F n) fun e => [(.int .i64 (.v fun _ => uX B F n (e.den)) (-1000) 1000)])⟩, some ⟨35, 2, true, (.lit [[(.int .i64 (.v fun _ => (mdQ A B D F n x4 x9).2.1) (-1000) 1000), (.int .i64 (.v fun _ => (mdQ A B D F n x4 x9).2.2) (-1000) 1000)]])⟩], 1⟩) (fun x9 => (0 ≤ x4 ∧ x4 < uN A D n) ∧ 0 ≤ x9 ∧ x9 ≤ uN B F n) (fun x9 => (uN B F n - x9).toNat) fun x9 => (.ite (.need (.need (.need (.need (.callF (c_s_depthAt A B D F n (uX A D n (x4)) (uX B F n (x9))) (.ite (.need (.need (.need (.need (.next [0, 1, 2, 3, 4]))))) (.next [0, 1, 2, 3, 4]))))))) (.out (.next [0, 1, 2, 3, 4])))) (.out .ret))))))) (G := (0 ≤ n ∧ n ≤ 1048576) → (∀ e28 : E, ((0 ≤ e28.den ∧ e28.den < n) → (((-9223372036854775808) ≤ ((A (e28.den))) ∧ ((A (e28.den))) ≤ 9223372036854775807) ∧ (((-9223372036854775808) ≤ ((B (e28.den))) ∧ ((B (e28.den))) ≤ 9223372036854775807) ∧ (((-9223372036854775808) ≤ ((D (e28.den))) ∧ ((D (e28.den))) ≤ 9223372036854775807) ∧ ((-9223372036854775808) ≤ ((F (e28.den))) ∧ ((F (e28.den))) ≤ 9223372036854775807)))))) → ((n = n) ∧ (((n ≤ n) ∧ (∀ e1 : E, ((0 ≤ e1.den ∧ e1.den < n) → ((((A (e1.den))) = ((A (e1.den)))) ∧ ((((B (e1.den))) = ((B (e1.den)))) ∧ ((((D (e1.den))) = ((D (e1.den)))) ∧ (((F (e1.den))) = ((F (e1.den)))))))))) ∧ ((((vrs A B D F n) = false) → (((((-1) : Int) = ((mdv A B D F n).1)) ∧ (((0 : Int) = ((mdv A B D F n).2.1)) ∧ ((0 : Int) = ((mdv A B D F n).2.2)))) ∧ ((n ≤ n) ∧ (∀ e2 : E, ((0 ≤ e2.den ∧ e2.den < n) → ((((A (e2.den))) = ((A (e2.den)))) ∧ ((((B (e2.den))) = ((B (e2.den)))) ∧ ((((D (e2.den))) = ((D (e2.den)))) ∧ (((F (e2.den))) = ((F (e2.den)))))))))))) ∧ (((vrs A B D F n) = true) → (((n = n) ∧ ((n ≤ 1048576) → (n ≤ 12))) ∧ (((n ≤ n) ∧ (∀ e3 : E, ((0 ≤ e3.den ∧ e3.den < n) → (((((A (e3.den))) = ((A (e3.den)))) ∧ (((-9223372036854775808) ≤ ((A (e3.den))) ∧ ((A (e3.den))) ≤ 9223372036854775807) → ((-1000) ≤ ((A (e3.den))) ∧ ((A (e3.den))) ≤ 1000))) ∧ (((((B (e3.den))) = ((B (e3.den)))) ∧ (((-9223372036854775808) ≤ ((B (e3.den))) ∧ ((B (e3.den))) ≤ 9223372036854775807) → ((-1000) ≤ ((B (e3.den))) ∧ ((B (e3.den))) ≤ 1000))) ∧ (((((D (e3.den))) = ((D (e3.den)))) ∧ (((-9223372036854775808) ≤ ((D (e3.den))) ∧ ((D (e3.den))) ≤ 9223372036854775807) → ((-1000) ≤ ((D (e3.den))) ∧ ((D (e3.den))) ≤ 1000))) ∧ ((((F (e3.den))) = ((F (e3.den)))) ∧ (((-9223372036854775808) ≤ ((F (e3.den))) ∧ ((F (e3.den))) ≤ 9223372036854775807) → ((-1000) ≤ ((F (e3.den))) ∧ ((F (e3.den))) ≤ 1000))))))))) ∧ (((0 ≤ (uN A D n) ∧ (uN A D n) ≤ 24) ∧ (0 ≤ (uN B F n) ∧ (uN B F n) ≤ 24)) → ((∃ y5 : Int, ((0 ≤ y5 ∧ y5 ≤ uN A D n) ∧ (((n = n) ∧ (((uN A D n) = (uN A D n)) ∧ (((uN B F n) = (uN B F n)) ∧ (((0 : Int) = ((mdQ A B D F n y5 0).1)) ∧ ((0 : Int) = y5))))) ∧ (((n ≤ n) ∧ (∀ e8 : E, ((0 ≤ e8.den ∧ e8.den < n) → ((((A (e8.den))) = ((A (e8.den)))) ∧ ((((B (e8.den))) = ((B (e8.den)))) ∧ ((((D (e8.den))) = ((D (e8.den)))) ∧ (((F (e8.den))) = ((F (e8.den)))))))))) ∧ ((((uN A D n) ≤ (uN A D n)) ∧ (∀ e7 : E, ((0 ≤ e7.den ∧ e7.den < (uN A D n)) → ((uX A D n (e7.den)) = (uX A D n (e7.den)))))) ∧ ((((uN B F n) ≤ (uN B F n)) ∧ (∀ e6 : E, ((0 ≤ e6.den ∧ e6.den < (uN B F n)) → ((uX B F n (e6.den)) = (uX B F n (e6.den)))))) ∧ (((0 : Int) = ((mdQ A B D F n y5 0).2.1)) ∧ ((0 : Int) = ((mdQ A B D F n y5 0).2.2))))))))) ∧ (∀ x4 : Int, ((0 ≤ x4 ∧ x4 ≤ uN A D n) → (((x4 < (uN A D n)) → ((∃ y10 : Int, (((0 ≤ x4 ∧ x4 < uN A D n) ∧ 0 ≤ y10 ∧ y10 ≤ uN B F n) ∧ (((n = n) ∧ (((uN A D n) = (uN A D n)) ∧ (((uN B F n) = (uN B F n)) ∧ ((((mdQ A B D F n x4 0).1) = ((mdQ A B D F n x4 y10).1)) ∧ ((x4 = x4) ∧ (((0 : Int) = y10) ∧ ((x4 = x4) ∧ (((uN A D n) = (uN A D n)) ∧ (((uN A D n) = (uN A D n)) ∧ ((x4 < (uN A D n)) ↔ (x4 < (uN A D n)))))))))))) ∧ (((n ≤ n) ∧ (∀ e13 : E, ((0 ≤ e13.den ∧ e13.den < n) → ((((A (e13.den))) = ((A (e13.den)))) ∧ ((((B (e13.den))) = ((B (e13.den)))) ∧ ((((D (e13.den))) = ((D (e13.den)))) ∧ (((F (e13.den))) = ((F (e13.den)))))))))) ∧ ((((uN A D n) ≤ (uN A D n)) ∧ (∀ e12 : E, ((0 ≤ e12.den ∧ e12.den < (uN A D n)) → ((uX A D n (e12.den)) = (uX A D n (e12.den)))))) ∧ ((((uN B F n) ≤ (uN B F n)) ∧ (∀ e11 : E, ((0 ≤ e11.den ∧ e11.den < (uN B F n)) → ((uX B F n (e11.den)) = (uX B F n (e11.den)))))) ∧ ((((mdQ A B D F n x4 0).2.1) = ((mdQ A B D F n x4 y10).2.1)) ∧ (((mdQ A B D F n x4 0).2.2) = ((mdQ A B D F n x4 y10).2.2))))))))) ∧ (∀ x9 : Int, (((0 ≤ x4 ∧ x4 < uN A D n) ∧ 0 ≤ x9 ∧ x9 ≤ uN B F n) → (((x9 < (uN B F n)) → ((((0 ≤ x4) ∧ (x4 < (uN A D n)))) ∧ ((x4 < (uN A D n)) ∧ ((((0 ≤ x9) ∧ (x9 < (uN B F n)))) ∧ ((x9 < (uN B F n)) ∧ ((((n = n) ∧ ((n ≤ 1048576) → (n ≤ 12))) ∧ (((uX A D n (x4)) = (uX A D n (x4))) ∧ ((uX B F n (x9)) = (uX B F n (x9))))) ∧ (((n ≤ n) ∧ (∀ e14 : E, ((0 ≤ e14.den ∧ e14.den < n) → ((((A (e14.den))) = ((A (e14.den)))) ∧ ((((B (e14.den))) = ((B (e14.den)))) ∧ ((((D (e14.den))) = ((D (e14.den)))) ∧ (((F (e14.den))) = ((F (e14.den)))))))))) ∧ ((0 ≤ (dep A B D F n (uX A D n (x4)) (uX B F n (x9))) ∧ (dep A B D F n (uX A D n (x4)) (uX B F n (x9))) ≤ 12) → (((((mdQ A B D F n x4 x9).1) < (dep A B D F n (uX A D n (x4)) (uX B F n (x9)))) → ((((0 ≤ x4) ∧ (x4 < (uN A D n)))) ∧ ((x4 < (uN A D n)) ∧ ((((0 ≤ x9) ∧ (x9 < (uN B F n)))) ∧ ((x9 < (uN B F n)) ∧ (∃ y15 : Int, (((0 ≤ x4 ∧ x4 < uN A D n) ∧ 0 ≤ y15 ∧ y15 ≤ uN B F n) ∧ ((((n = n) ∧ (((uN A D n) = (uN A D n)) ∧ (((uN B F n) = (uN B F n)) ∧ (((dep A B D F n (uX A D n (x4)) (uX B F n (x9))) = ((mdQ A B D F n x4 y15).1)) ∧ ((x4 = x4) ∧ ((((x9 + 1) = y15) ∧ ((1 ≤ (x9 + 1) ∧ (x9 + 1) ≤ 25) → (0 ≤ y15 ∧ y15 ≤ 24))) ∧ ((x4 = x4) ∧ (((uN A D n) = (uN A D n)) ∧ (((uN A D n) = (uN A D n)) ∧ ((x4 < (uN A D n)) ↔ (x4 < (uN A D n)))))))))))) ∧ (((n ≤ n) ∧ (∀ e18 : E, ((0 ≤ e18.den ∧ e18.den < n) → ((((A (e18.den))) = ((A (e18.den)))) ∧ ((((B (e18.den))) = ((B (e18.den)))) ∧ ((((D (e18.den))) = ((D (e18.den)))) ∧ (((F (e18.den))) = ((F (e18.den)))))))))) ∧ ((((uN A D n) ≤ (uN A D n)) ∧ (∀ e17 : E, ((0 ≤ e17.den ∧ e17.den < (uN A D n)) → ((uX A D n (e17.den)) = (uX A D n (e17.den)))))) ∧ ((((uN B F n) ≤ (uN B F n)) ∧ (∀ e16 : E, ((0 ≤ e16.den ∧ e16.den < (uN B F n)) → ((uX B F n (e16.den)) = (uX B F n (e16.den)))))) ∧ (((uX A D n (x4)) = ((mdQ A B D F n x4 y15).2.1)) ∧ ((uX B F n (x9)) = ((mdQ A B D F n x4 y15).2.2))))))) ∧ ((uN B F n - y15).toNat < (uN B F n - x9).toNat))))))))) ∧ (((dep A B D F n (uX A D n (x4)) (uX B F n (x9))) ≤ ((mdQ A B D F n x4 x9).1)) → (∃ y19 : Int, (((0 ≤ x4 ∧ x4 < uN A D n) ∧ 0 ≤ y19 ∧ y19 ≤ uN B F n) ∧ ((((n = n) ∧ (((uN A D n) = (uN A D n)) ∧ (((uN B F n) = (uN B F n)) ∧ ((((mdQ A B D F n x4 x9).1) = ((mdQ A B D F n x4 y19).1)) ∧ ((x4 = x4) ∧ ((((x9 + 1) = y19) ∧ ((1 ≤ (x9 + 1) ∧ (x9 + 1) ≤ 25) → (0 ≤ y19 ∧ y19 ≤ 24))) ∧ ((x4 = x4) ∧ (((uN A D n) = (uN A D n)) ∧ (((uN A D n) = (uN A D n)) ∧ ((x4 < (uN A D n)) ↔ (x4 < (uN A D n)))))))))))) ∧ (((n ≤ n) ∧ (∀ e22 : E, ((0 ≤ e22.den ∧ e22.den < n) → ((((A (e22.den))) = ((A (e22.den)))) ∧ ((((B (e22.den))) = ((B (e22.den)))) ∧ ((((D (e22.den))) = ((D (e22.den)))) ∧ (((F (e22.den))) = ((F (e22.den)))))))))) ∧ ((((uN A D n) ≤ (uN A D n)) ∧ (∀ e21 : E, ((0 ≤ e21.den ∧ e21.den < (uN A D n)) → ((uX A D n (e21.den)) = (uX A D n (e21.den)))))) ∧ ((((uN B F n) ≤ (uN B F n)) ∧ (∀ e20 : E, ((0 ≤ e20.den ∧ e20.den < (uN B F n)) → ((uX B F n (e20.den)) = (uX B F n (e20.den)))))) ∧ ((((mdQ A B D F n x4 x9).2.1) = ((mdQ A B D F n x4 y19).2.1)) ∧ (((mdQ A B D F n x4 x9).2.2) = ((mdQ A B D F n x4 y19).2.2))))))) ∧ ((uN B F n - y19).toNat < (uN B F n - x9).toNat)))))))))))))) ∧ (((uN B F n) ≤ x9) → (∃ y23 : Int, ((0 ≤ y23 ∧ y23 ≤ uN A D n) ∧ ((((n = n) ∧ (((uN A D n) = (uN A D n)) ∧ (((uN B F n) = (uN B F n)) ∧ ((((mdQ A B D F n x4 x9).1) = ((mdQ A B D F n y23 0).1)) ∧ (((x4 + 1) = y23) ∧ ((1 ≤ (x4 + 1) ∧ (x4 + 1) ≤ 25) → (0 ≤ y23 ∧ y23 ≤ 24))))))) ∧ (((n ≤ n) ∧ (∀ e26 : E, ((0 ≤ e26.den ∧ e26.den < n) → ((((A (e26.den))) = ((A (e26.den)))) ∧ ((((B (e26.den))) = ((B (e26.den)))) ∧ ((((D (e26.den))) = ((D (e26.den)))) ∧ (((F (e26.den))) = ((F (e26.den)))))))))) ∧ ((((uN A D n) ≤ (uN A D n)) ∧ (∀ e25 : E, ((0 ≤ e25.den ∧ e25.den < (uN A D n)) → ((uX A D n (e25.den)) = (uX A D n (e25.den)))))) ∧ ((((uN B F n) ≤ (uN B F n)) ∧ (∀ e24 : E, ((0 ≤ e24.den ∧ e24.den < (uN B F n)) → ((uX B F n (e24.den)) = (uX B F n (e24.den)))))) ∧ ((((mdQ A B D F n x4 x9).2.1) = ((mdQ A B D F n y23 0).2.1)) ∧ (((mdQ A B D F n x4 x9).2.2) = ((mdQ A B D F n y23 0).2.2))))))) ∧ ((uN A D n - y23).toNat < (uN A D n - x4).toNat)))))))))) ∧ (((uN A D n) ≤ x4) → (((((mdQ A B D F n x4 0).1) = ((mdv A B D F n).1)) ∧ ((((mdQ A B D F n x4 0).2.1) = ((mdv A B D F n).2.1)) ∧ (((mdQ A B D F n x4 0).2.2) = ((mdv A B D F n).2.2)))) ∧ ((n ≤ n) ∧ (∀ e27 : E, ((0 ≤ e27.den ∧ e27.den < n) → ((((A (e27.den))) = ((A (e27.den)))) ∧ ((((B (e27.den))) = ((B (e27.den)))) ∧ ((((D (e27.den))) = ((D (e27.den)))) ∧ (((F (e27.den))) = ((F (e27.den)))))))))))))))))))))))) (by kernel_rfl) ?_
  intro h1 h2
  refine ⟨rfl, ⟨Int.le_refl _, fun _ => fun _ => ⟨rfl, ⟨rfl, ⟨rfl, rfl⟩⟩⟩⟩, ?_, ?_⟩
  · intro c29
    refine ⟨?_, Int.le_refl _, fun _ => fun _ => ⟨rfl, ⟨rfl, ⟨rfl, rfl⟩⟩⟩⟩
    refine ⟨?_, ?_, ?_⟩
    · exact (mdv_no_1 (by assumption)).symm
    · exact (mdv_no_2 (by assumption)).symm
    · exact (mdv_no_3 (by assumption)).symm
  · intro c30
    refine ⟨?_, ?_, ?_⟩
    · refine ⟨rfl, ?_⟩
      intro c31
      have hv := vrs_ok (show vrs A B D F n = true by assumption); omega
    · refine ⟨Int.le_refl _, ?_⟩
      intro e3
      intro c32
      refine ⟨?_, ?_, ?_, rfl, ?_⟩
      · refine ⟨rfl, ?_⟩
        intro c33
        have hv := vrs_r (show vrs A B D F n = true by assumption) (r := e3.den) (by omega) (by omega); omega
      · refine ⟨rfl, ?_⟩
        intro c34
        have hv := vrs_r (show vrs A B D F n = true by assumption) (r := e3.den) (by omega) (by omega); omega
      · refine ⟨rfl, ?_⟩
        intro c35
        have hv := vrs_r (show vrs A B D F n = true by assumption) (r := e3.den) (by omega) (by omega); omega
      · intro c36
        have hv := vrs_r (show vrs A B D F n = true by assumption) (r := e3.den) (by omega) (by omega); omega
    · intro c37
      refine ⟨?_, ?_⟩
      · refine ⟨0, ?_⟩
        try dsimp only
        refine ⟨?_, ?_, ⟨Int.le_refl _, fun _ => fun _ => ⟨rfl, ⟨rfl, ⟨rfl, rfl⟩⟩⟩⟩, ⟨Int.le_refl _, fun _ => fun _ => rfl⟩, ⟨Int.le_refl _, fun _ => fun _ => rfl⟩, ?_, ?_⟩
        · omega
        · refine ⟨rfl, rfl, rfl, ?_, ?_⟩
          · rw [mdQ_0]; done
          · omega
        · rw [mdQ_0]; done
        · rw [mdQ_0]; done
      · intro j
        intro I1
        refine ⟨?_, ?_⟩
        · intro c38
          refine ⟨?_, ?_⟩
          · refine ⟨0, ?_⟩
            try dsimp only
            refine ⟨?_, ?_, ⟨Int.le_refl _, fun _ => fun _ => ⟨rfl, ⟨rfl, ⟨rfl, rfl⟩⟩⟩⟩, ⟨Int.le_refl _, fun _ => fun _ => rfl⟩, ⟨Int.le_refl _, fun _ => fun _ => rfl⟩, ?_, ?_⟩
            · omega
            · refine ⟨rfl, rfl, rfl, ?_, rfl, ?_, rfl, rfl, rfl, Iff.rfl⟩
              · omega
              · omega
            · omega
            · omega
          · intro k
            intro I2
            refine ⟨?_, ?_⟩
            · intro c39
              refine ⟨?_, ?_, ?_, ?_, ?_, ⟨Int.le_refl _, fun _ => fun _ => ⟨rfl, ⟨rfl, ⟨rfl, rfl⟩⟩⟩⟩, ?_⟩
              · omega
              · omega
              · omega
              · omega
              · refine ⟨?_, rfl, rfl⟩
                refine ⟨rfl, ?_⟩
                intro c40
                have hv := vrs_ok (show vrs A B D F n = true by assumption); omega
              · intro c41
                refine ⟨?_, ?_⟩
                · intro c42
                  refine ⟨?_, ?_, ?_, ?_, ?_⟩
                  · omega
                  · omega
                  · omega
                  · omega
                  · refine ⟨k + 1, ?_⟩
                    try dsimp only
                    refine ⟨?_, ?_, ?_⟩
                    · omega
                    · refine ⟨?_, ⟨Int.le_refl _, fun _ => fun _ => ⟨rfl, ⟨rfl, ⟨rfl, rfl⟩⟩⟩⟩, ⟨Int.le_refl _, fun _ => fun _ => rfl⟩, ⟨Int.le_refl _, fun _ => fun _ => rfl⟩, ?_, ?_⟩
                      · refine ⟨rfl, rfl, rfl, ?_, rfl, ?_, rfl, rfl, rfl, Iff.rfl⟩
                        · rw [mdQ_yes (by omega) (by omega)]; done
                        · refine ⟨?_, ?_⟩
                          · omega
                          · intro c43
                            omega
                      · rw [mdQ_yes (by omega) (by omega)]; done
                      · rw [mdQ_yes (by omega) (by omega)]; done
                    · omega
                · intro c44
                  refine ⟨k + 1, ?_⟩
                  try dsimp only
                  refine ⟨?_, ?_, ?_⟩
                  · omega
                  · refine ⟨?_, ⟨Int.le_refl _, fun _ => fun _ => ⟨rfl, ⟨rfl, ⟨rfl, rfl⟩⟩⟩⟩, ⟨Int.le_refl _, fun _ => fun _ => rfl⟩, ⟨Int.le_refl _, fun _ => fun _ => rfl⟩, ?_, ?_⟩
                    · refine ⟨rfl, rfl, rfl, ?_, rfl, ?_, rfl, rfl, rfl, Iff.rfl⟩
                      · rw [mdQ_no (by omega) (by omega)]; done
                      · refine ⟨?_, ?_⟩
                        · omega
                        · intro c45
                          omega
                    · rw [mdQ_no (by omega) (by omega)]; done
                    · rw [mdQ_no (by omega) (by omega)]; done
                  · omega
            · intro c46
              refine ⟨j + 1, ?_⟩
              try dsimp only
              refine ⟨?_, ?_, ?_⟩
              · omega
              · refine ⟨?_, ⟨Int.le_refl _, fun _ => fun _ => ⟨rfl, ⟨rfl, ⟨rfl, rfl⟩⟩⟩⟩, ⟨Int.le_refl _, fun _ => fun _ => rfl⟩, ⟨Int.le_refl _, fun _ => fun _ => rfl⟩, ?_, ?_⟩
                · refine ⟨rfl, rfl, rfl, ?_, ?_, ?_⟩
                  · have hu := uN_bd B F (n := n) h1.1; rw [mdQ_row (by omega) hu.1 (by omega) (by omega)]; done
                  · omega
                  · intro c47
                    omega
                · have hu := uN_bd B F (n := n) h1.1; rw [mdQ_row (by omega) hu.1 (by omega) (by omega)]; done
                · have hu := uN_bd B F (n := n) h1.1; rw [mdQ_row (by omega) hu.1 (by omega) (by omega)]; done
              · omega
        · intro c48
          refine ⟨?_, Int.le_refl _, fun _ => fun _ => ⟨rfl, ⟨rfl, ⟨rfl, rfl⟩⟩⟩⟩
          refine ⟨?_, ?_, ?_⟩
          · have hu := uN_bd A D (n := n) h1.1; rw [mdv_yes (by assumption), mdQ_end (by omega) (by omega) (by omega)]; done
          · have hu := uN_bd A D (n := n) h1.1; rw [mdv_yes (by assumption), mdQ_end (by omega) (by omega) (by omega)]; done
          · have hu := uN_bd A D (n := n) h1.1; rw [mdv_yes (by assumption), mdQ_end (by omega) (by omega) (by omega)]; done
def c_s_MaxDepth (A : Int → Int) (B : Int → Int) (D : Int → Int) (F : Int → Int) (n : Int) : Cn Try.prog := ⟨_, _, _, _, _, s_MaxDepth A B D F n⟩
end Go.Proofs.Ytpnjopppclmfkaa
