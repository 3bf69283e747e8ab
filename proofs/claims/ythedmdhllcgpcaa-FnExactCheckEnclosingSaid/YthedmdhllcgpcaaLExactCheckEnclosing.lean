/- FnExactCheckEnclosing: the walk. -/
import Derived.Test.YthedmdhllcgpcaaK25
set_option linter.unusedSimpArgs false
set_option linter.unusedVariables false
set_option maxRecDepth 100000
namespace Go.Proofs.Ythedmdhllcgpcaa
open Go.Sym
theorem l_eqIntSw (Z : Int → Int) (m : Int) (V : Int → Int) (k : Int) : RunsTo Try.prog 12 [(.sl 0 1 (.lit 0) (.v fun _ => m) 1048576), (.sl 1 1 (.lit 0) (.v fun _ => k) 1048576)] [some ⟨3, 1, true, (.sym (.v fun _ => m) fun e => [(.int .i64 (.v fun _ => (Z (e.den))) (-9223372036854775808) 9223372036854775807)])⟩, some ⟨3, 1, true, (.sym (.v fun _ => k) fun e => [(.int .i64 (.v fun _ => (V (e.den))) (-9223372036854775808) 9223372036854775807)])⟩] (.bool (.v fun _ => eqB Z m V k)) [some ⟨3, 1, true, (.sym (.v fun _ => m) fun e => [(.int .i64 (.v fun _ => (Z (e.den))) (-9223372036854775808) 9223372036854775807)])⟩, some ⟨3, 1, true, (.sym (.v fun _ => k) fun e => [(.int .i64 (.v fun _ => (V (e.den))) (-9223372036854775808) 9223372036854775807)])⟩] := by
  refine RunsTo.go env Try.func12 rfl Try.call12 rfl rfl (fun _ _ => (.ite .ret (.loop [] [0, 1] (Int) (fun x3 => ⟨spl 26 0 [(0, (.sl 0 1 (.lit 0) (.v fun _ => m) 1048576)), (1, (.sl 1 1 (.lit 0) (.v fun _ => k) 1048576)), (5, (.int .i64 (.v fun _ => x3) 0 1048576))], [some ⟨3, 1, true, (.sym (.v fun _ => m) fun e => [(.int .i64 (.v fun _ => (Z (e.den))) (-9223372036854775808) 9223372036854775807)])⟩, some ⟨3, 1, true, (.sym (.v fun _ => k) fun e => [(.int .i64 (.v fun _ => (V (e.den))) (-9223372036854775808) 9223372036854775807)])⟩], 2⟩) (fun x3 => (0 ≤ x3 ∧ x3 ≤ m) ∧ ∀ i, 0 ≤ i → i < x3 → decide ((Z (i)) = (V (i))) = true) (fun x3 => (m - x3).toNat) fun x3 => (.ite (.need (.need (.need (.need (.ite (.out .ret) (.next [0, 1])))))) (.out .ret))))) (G := ((0 ≤ m ∧ m ≤ 1048576) ∧ (0 ≤ k ∧ k ≤ 1048576)) → ((∀ e15 : E, ((0 ≤ e15.den ∧ e15.den < m) → ((-9223372036854775808) ≤ ((Z (e15.den))) ∧ ((Z (e15.den))) ≤ 9223372036854775807))) ∧ (∀ e14 : E, ((0 ≤ e14.den ∧ e14.den < k) → ((-9223372036854775808) ≤ ((V (e14.den))) ∧ ((V (e14.den))) ≤ 9223372036854775807)))) → (((m ≠ k) → (((eqB Z m V k) = false) ∧ (((m ≤ m) ∧ (∀ e2 : E, ((0 ≤ e2.den ∧ e2.den < m) → (((Z (e2.den))) = ((Z (e2.den))))))) ∧ ((k ≤ k) ∧ (∀ e1 : E, ((0 ≤ e1.den ∧ e1.den < k) → (((V (e1.den))) = ((V (e1.den)))))))))) ∧ ((m = k) → ((∃ y4 : Int, (((0 ≤ y4 ∧ y4 ≤ m) ∧ ∀ i, 0 ≤ i → i < y4 → decide ((Z (i)) = (V (i))) = true) ∧ (((m = m) ∧ ((k = k) ∧ ((0 : Int) = y4))) ∧ (((m ≤ m) ∧ (∀ e6 : E, ((0 ≤ e6.den ∧ e6.den < m) → (((Z (e6.den))) = ((Z (e6.den))))))) ∧ ((k ≤ k) ∧ (∀ e5 : E, ((0 ≤ e5.den ∧ e5.den < k) → (((V (e5.den))) = ((V (e5.den))))))))))) ∧ (∀ x3 : Int, (((0 ≤ x3 ∧ x3 ≤ m) ∧ ∀ i, 0 ≤ i → i < x3 → decide ((Z (i)) = (V (i))) = true) → (((x3 < m) → ((((0 ≤ x3) ∧ (x3 < m))) ∧ ((x3 < m) ∧ ((((0 ≤ x3) ∧ (x3 < k))) ∧ ((x3 < k) ∧ (((((Z (x3))) ≠ ((V (x3)))) → (((eqB Z m V k) = false) ∧ (((m ≤ m) ∧ (∀ e8 : E, ((0 ≤ e8.den ∧ e8.den < m) → (((Z (e8.den))) = ((Z (e8.den))))))) ∧ ((k ≤ k) ∧ (∀ e7 : E, ((0 ≤ e7.den ∧ e7.den < k) → (((V (e7.den))) = ((V (e7.den)))))))))) ∧ ((((Z (x3))) = ((V (x3)))) → (∃ y9 : Int, (((0 ≤ y9 ∧ y9 ≤ m) ∧ ∀ i, 0 ≤ i → i < y9 → decide ((Z (i)) = (V (i))) = true) ∧ ((((m = m) ∧ ((k = k) ∧ (((x3 + 1) = y9) ∧ ((1 ≤ (x3 + 1) ∧ (x3 + 1) ≤ 1048577) → (0 ≤ y9 ∧ y9 ≤ 1048576))))) ∧ (((m ≤ m) ∧ (∀ e11 : E, ((0 ≤ e11.den ∧ e11.den < m) → (((Z (e11.den))) = ((Z (e11.den))))))) ∧ ((k ≤ k) ∧ (∀ e10 : E, ((0 ≤ e10.den ∧ e10.den < k) → (((V (e10.den))) = ((V (e10.den))))))))) ∧ ((m - y9).toNat < (m - x3).toNat))))))))))) ∧ ((m ≤ x3) → (((eqB Z m V k) = true) ∧ (((m ≤ m) ∧ (∀ e13 : E, ((0 ≤ e13.den ∧ e13.den < m) → (((Z (e13.den))) = ((Z (e13.den))))))) ∧ ((k ≤ k) ∧ (∀ e12 : E, ((0 ≤ e12.den ∧ e12.den < k) → (((V (e12.den))) = ((V (e12.den))))))))))))))))) (by kernel_rfl) ?_
  intro h1 h2
  refine ⟨?_, ?_⟩
  · intro c16
    refine ⟨?_, ⟨Int.le_refl _, fun _ => fun _ => rfl⟩, Int.le_refl _, fun _ => fun _ => rfl⟩
    -- 1: (eqB Z m V k) = false
    first | rfl | omega | (refine ⟨by omega, fun i a b => ?_⟩; first | (exfalso; omega) | (by_cases e : i = j; (subst e; exact decide_eq_true (by assumption)); exact I1.2 i a (by omega))) | (simp only [eqB]; rw [allB_false (q := fun i => decide (Z i = V i)) I1.1.1 (by omega) (decide_eq_false (by assumption))]; simp; done) | (simp only [eqB]; rw [allB_iff.2 fun i a b => I1.2 i a (by omega)]; simp; omega) | (simp [eqB]; omega)
  · intro c17
    refine ⟨?_, ?_⟩
    · refine ⟨0, ?_⟩
      try dsimp only
      refine ⟨?_, ?_, ⟨Int.le_refl _, fun _ => fun _ => rfl⟩, Int.le_refl _, fun _ => fun _ => rfl⟩
        -- 2: (0 ≤ y4 ∧ y4 ≤ m) ∧ ∀ i, 0 ≤ i → i < y4 → decide ((Z (i)) = (V (i))) = true
      · first | rfl | omega | (refine ⟨by omega, fun i a b => ?_⟩; first | (exfalso; omega) | (by_cases e : i = j; (subst e; exact decide_eq_true (by assumption)); exact I1.2 i a (by omega))) | (simp only [eqB]; rw [allB_false (q := fun i => decide (Z i = V i)) I1.1.1 (by omega) (decide_eq_false (by assumption))]; simp; done) | (simp only [eqB]; rw [allB_iff.2 fun i a b => I1.2 i a (by omega)]; simp; omega) | (simp [eqB]; omega)
      · refine ⟨rfl, rfl, ?_⟩
        -- 3: (0 : Int) = y4
        first | rfl | omega | (refine ⟨by omega, fun i a b => ?_⟩; first | (exfalso; omega) | (by_cases e : i = j; (subst e; exact decide_eq_true (by assumption)); exact I1.2 i a (by omega))) | (simp only [eqB]; rw [allB_false (q := fun i => decide (Z i = V i)) I1.1.1 (by omega) (decide_eq_false (by assumption))]; simp; done) | (simp only [eqB]; rw [allB_iff.2 fun i a b => I1.2 i a (by omega)]; simp; omega) | (simp [eqB]; omega)
    · intro j
      intro I1
      refine ⟨?_, ?_⟩
      · intro c18
        refine ⟨?_, ?_, ?_, ?_, ?_, ?_⟩
          -- 4: ((0 ≤ x3) ∧ (x3 < m))
        · first | rfl | omega | (refine ⟨by omega, fun i a b => ?_⟩; first | (exfalso; omega) | (by_cases e : i = j; (subst e; exact decide_eq_true (by assumption)); exact I1.2 i a (by omega))) | (simp only [eqB]; rw [allB_false (q := fun i => decide (Z i = V i)) I1.1.1 (by omega) (decide_eq_false (by assumption))]; simp; done) | (simp only [eqB]; rw [allB_iff.2 fun i a b => I1.2 i a (by omega)]; simp; omega) | (simp [eqB]; omega)
          -- 5: x3 < m
        · first | rfl | omega | (refine ⟨by omega, fun i a b => ?_⟩; first | (exfalso; omega) | (by_cases e : i = j; (subst e; exact decide_eq_true (by assumption)); exact I1.2 i a (by omega))) | (simp only [eqB]; rw [allB_false (q := fun i => decide (Z i = V i)) I1.1.1 (by omega) (decide_eq_false (by assumption))]; simp; done) | (simp only [eqB]; rw [allB_iff.2 fun i a b => I1.2 i a (by omega)]; simp; omega) | (simp [eqB]; omega)
          -- 6: ((0 ≤ x3) ∧ (x3 < k))
        · first | rfl | omega | (refine ⟨by omega, fun i a b => ?_⟩; first | (exfalso; omega) | (by_cases e : i = j; (subst e; exact decide_eq_true (by assumption)); exact I1.2 i a (by omega))) | (simp only [eqB]; rw [allB_false (q := fun i => decide (Z i = V i)) I1.1.1 (by omega) (decide_eq_false (by assumption))]; simp; done) | (simp only [eqB]; rw [allB_iff.2 fun i a b => I1.2 i a (by omega)]; simp; omega) | (simp [eqB]; omega)
          -- 7: x3 < k
        · first | rfl | omega | (refine ⟨by omega, fun i a b => ?_⟩; first | (exfalso; omega) | (by_cases e : i = j; (subst e; exact decide_eq_true (by assumption)); exact I1.2 i a (by omega))) | (simp only [eqB]; rw [allB_false (q := fun i => decide (Z i = V i)) I1.1.1 (by omega) (decide_eq_false (by assumption))]; simp; done) | (simp only [eqB]; rw [allB_iff.2 fun i a b => I1.2 i a (by omega)]; simp; omega) | (simp [eqB]; omega)
        · intro c19
          refine ⟨?_, ⟨Int.le_refl _, fun _ => fun _ => rfl⟩, Int.le_refl _, fun _ => fun _ => rfl⟩
          -- 8: (eqB Z m V k) = false
          first | rfl | omega | (refine ⟨by omega, fun i a b => ?_⟩; first | (exfalso; omega) | (by_cases e : i = j; (subst e; exact decide_eq_true (by assumption)); exact I1.2 i a (by omega))) | (simp only [eqB]; rw [allB_false (q := fun i => decide (Z i = V i)) I1.1.1 (by omega) (decide_eq_false (by assumption))]; simp; done) | (simp only [eqB]; rw [allB_iff.2 fun i a b => I1.2 i a (by omega)]; simp; omega) | (simp [eqB]; omega)
        · intro c20
          refine ⟨j + 1, ?_⟩
          try dsimp only
          refine ⟨?_, ?_, ?_⟩
            -- 9: (0 ≤ y9 ∧ y9 ≤ m) ∧ ∀ i, 0 ≤ i → i < y9 → decide ((Z (i)) = (V (i))) = true
          · first | rfl | omega | (refine ⟨by omega, fun i a b => ?_⟩; first | (exfalso; omega) | (by_cases e : i = j; (subst e; exact decide_eq_true (by assumption)); exact I1.2 i a (by omega))) | (simp only [eqB]; rw [allB_false (q := fun i => decide (Z i = V i)) I1.1.1 (by omega) (decide_eq_false (by assumption))]; simp; done) | (simp only [eqB]; rw [allB_iff.2 fun i a b => I1.2 i a (by omega)]; simp; omega) | (simp [eqB]; omega)
          · refine ⟨?_, ⟨Int.le_refl _, fun _ => fun _ => rfl⟩, Int.le_refl _, fun _ => fun _ => rfl⟩
            refine ⟨rfl, rfl, ?_, ?_⟩
              -- 10: (x3 + 1) = y9
            · first | rfl | omega | (refine ⟨by omega, fun i a b => ?_⟩; first | (exfalso; omega) | (by_cases e : i = j; (subst e; exact decide_eq_true (by assumption)); exact I1.2 i a (by omega))) | (simp only [eqB]; rw [allB_false (q := fun i => decide (Z i = V i)) I1.1.1 (by omega) (decide_eq_false (by assumption))]; simp; done) | (simp only [eqB]; rw [allB_iff.2 fun i a b => I1.2 i a (by omega)]; simp; omega) | (simp [eqB]; omega)
            · intro c21
              -- 11: 0 ≤ y9 ∧ y9 ≤ 1048576
              first | rfl | omega | (refine ⟨by omega, fun i a b => ?_⟩; first | (exfalso; omega) | (by_cases e : i = j; (subst e; exact decide_eq_true (by assumption)); exact I1.2 i a (by omega))) | (simp only [eqB]; rw [allB_false (q := fun i => decide (Z i = V i)) I1.1.1 (by omega) (decide_eq_false (by assumption))]; simp; done) | (simp only [eqB]; rw [allB_iff.2 fun i a b => I1.2 i a (by omega)]; simp; omega) | (simp [eqB]; omega)
            -- 12: (m - y9).toNat < (m - x3).toNat
          · first | rfl | omega | (refine ⟨by omega, fun i a b => ?_⟩; first | (exfalso; omega) | (by_cases e : i = j; (subst e; exact decide_eq_true (by assumption)); exact I1.2 i a (by omega))) | (simp only [eqB]; rw [allB_false (q := fun i => decide (Z i = V i)) I1.1.1 (by omega) (decide_eq_false (by assumption))]; simp; done) | (simp only [eqB]; rw [allB_iff.2 fun i a b => I1.2 i a (by omega)]; simp; omega) | (simp [eqB]; omega)
      · intro c22
        refine ⟨?_, ⟨Int.le_refl _, fun _ => fun _ => rfl⟩, Int.le_refl _, fun _ => fun _ => rfl⟩
        -- 13: (eqB Z m V k) = true
        first | rfl | omega | (refine ⟨by omega, fun i a b => ?_⟩; first | (exfalso; omega) | (by_cases e : i = j; (subst e; exact decide_eq_true (by assumption)); exact I1.2 i a (by omega))) | (simp only [eqB]; rw [allB_false (q := fun i => decide (Z i = V i)) I1.1.1 (by omega) (decide_eq_false (by assumption))]; simp; done) | (simp only [eqB]; rw [allB_iff.2 fun i a b => I1.2 i a (by omega)]; simp; omega) | (simp [eqB]; omega)
def c_l_eqIntSw (Z : Int → Int) (m : Int) (V : Int → Int) (k : Int) : Cn Try.prog := ⟨_, _, _, _, _, l_eqIntSw Z m V k⟩
theorem l_toIntS (A : Int → Int) (m : Int) : RunsTo Try.prog 9 [(.sl 0 1 (.lit 0) (.v fun _ => m) 1048576)] [some ⟨3, 1, false, (.sym (.v fun _ => m) fun e => [(.int .i64 (.v fun _ => (A (e.den))) (-9223372036854775808) 9223372036854775807)])⟩] (.sl 1 1 (.lit 0) (.v fun _ => m) 1048576) [some ⟨3, 1, false, (.sym (.v fun _ => m) fun e => [(.int .i64 (.v fun _ => (A (e.den))) (-9223372036854775808) 9223372036854775807)])⟩, some ⟨3, 1, true, (.sym (.v fun _ => m) fun e => [(.int .i64 (.v fun _ => (A (e.den))) (-9223372036854775808) 9223372036854775807)])⟩] := by
  refine RunsTo.go env Try.func9 rfl Try.call9 rfl rfl (fun _ _ => (.need (.loop [] [0, 1] (Int) (fun x1 => ⟨spl 22 0 [(0, (.sl 0 1 (.lit 0) (.v fun _ => m) 1048576)), (2, (.raw (.slice none 0 0))), (3, (.sl 1 1 (.lit 0) (.v fun _ => m) 1048576)), (4, (.int .i64 (.v fun _ => x1) 0 1048576))], [some ⟨3, 1, false, (.sym (.v fun _ => m) fun e => [(.int .i64 (.v fun _ => (A (e.den))) (-9223372036854775808) 9223372036854775807)])⟩, some ⟨3, 1, true, (.sym (.v fun _ => m) fun e => [(.int .i64 (.v fun _ => cpy A x1 (e.den)) (-9223372036854775808) 9223372036854775807)])⟩], 1⟩) (fun x1 => 0 ≤ x1 ∧ x1 ≤ m) (fun x1 => (m - x1).toNat) fun x1 => (.ite (.need (.need (.need (.need (.next [0, 1]))))) (.out .ret))))) (G := (0 ≤ m ∧ m ≤ 1048576) → (∀ e11 : E, ((0 ≤ e11.den ∧ e11.den < m) → ((-9223372036854775808) ≤ ((A (e11.den))) ∧ ((A (e11.den))) ≤ 9223372036854775807))) → ((m ≤ m) ∧ ((∃ y2 : Int, ((0 ≤ y2 ∧ y2 ≤ m) ∧ (((m = m) ∧ ((((.slice none 0 0) : Value) = (.slice none 0 0)) ∧ ((m = m) ∧ ((0 : Int) = y2)))) ∧ (((m ≤ m) ∧ (∀ e4 : E, ((0 ≤ e4.den ∧ e4.den < m) → (((A (e4.den))) = ((A (e4.den))))))) ∧ ((m ≤ m) ∧ (∀ e3 : E, ((0 ≤ e3.den ∧ e3.den < m) → ((0 : Int) = (cpy A y2 (e3.den)))))))))) ∧ (∀ x1 : Int, ((0 ≤ x1 ∧ x1 ≤ m) → (((x1 < m) → ((((0 ≤ x1) ∧ (x1 < m))) ∧ ((x1 < m) ∧ ((((0 ≤ x1) ∧ (x1 < m))) ∧ ((x1 < m) ∧ (∃ y5 : Int, ((0 ≤ y5 ∧ y5 ≤ m) ∧ ((((m = m) ∧ ((((.slice none 0 0) : Value) = (.slice none 0 0)) ∧ ((m = m) ∧ (((x1 + 1) = y5) ∧ ((1 ≤ (x1 + 1) ∧ (x1 + 1) ≤ 1048577) → (0 ≤ y5 ∧ y5 ≤ 1048576)))))) ∧ (((m ≤ m) ∧ (∀ e8 : E, ((0 ≤ e8.den ∧ e8.den < m) → (((A (e8.den))) = ((A (e8.den))))))) ∧ ((m = m) ∧ ((∀ e7 : E, ((0 ≤ e7.den ∧ e7.den < m ∧ e7.den ≠ x1) → ((cpy A x1 (e7.den)) = (cpy A y5 (e7.den))))) ∧ (∀ e6 : E, ((e6.den.toNat = (x1 : Int).toNat ∧ 0 ≤ e6.den) → (((A (x1))) = (cpy A y5 (e6.den))))))))) ∧ ((m - y5).toNat < (m - x1).toNat))))))))) ∧ ((m ≤ x1) → ((m = m) ∧ (((m ≤ m) ∧ (∀ e10 : E, ((0 ≤ e10.den ∧ e10.den < m) → (((A (e10.den))) = ((A (e10.den))))))) ∧ ((m ≤ m) ∧ (∀ e9 : E, ((0 ≤ e9.den ∧ e9.den < m) → ((cpy A x1 (e9.den)) = ((A (e9.den)))))))))))))))) (by kernel_rfl) ?_
  intro h1 h2
  refine ⟨?_, ?_, ?_⟩
    -- 1: m ≤ m
  · first | rfl | omega | (simp [cpy, *]; done) | (simp [cpy, *]; omega) | (unfold cpy; rw [if_neg (by omega)]; done) | (unfold cpy; rw [if_pos (by omega)]; done) | (simp only [cpy]; rw [if_pos (by omega)]; congr 1; omega) | fail
  · refine ⟨0, ?_⟩
    try dsimp only
    refine ⟨?_, ?_, ⟨Int.le_refl _, fun _ => fun _ => rfl⟩, Int.le_refl _, ?_⟩
      -- 2: 0 ≤ y2 ∧ y2 ≤ m
    · first | rfl | omega | (simp [cpy, *]; done) | (simp [cpy, *]; omega) | (unfold cpy; rw [if_neg (by omega)]; done) | (unfold cpy; rw [if_pos (by omega)]; done) | (simp only [cpy]; rw [if_pos (by omega)]; congr 1; omega) | fail
    · refine ⟨rfl, rfl, rfl, ?_⟩
      -- 3: (0 : Int) = y2
      first | rfl | omega | (simp [cpy, *]; done) | (simp [cpy, *]; omega) | (unfold cpy; rw [if_neg (by omega)]; done) | (unfold cpy; rw [if_pos (by omega)]; done) | (simp only [cpy]; rw [if_pos (by omega)]; congr 1; omega) | fail
    · intro e3
      intro c12
      -- 4: (0 : Int) = (cpy A y2 (e3.den))
      first | rfl | omega | (simp [cpy, *]; done) | (simp [cpy, *]; omega) | (unfold cpy; rw [if_neg (by omega)]; done) | (unfold cpy; rw [if_pos (by omega)]; done) | (simp only [cpy]; rw [if_pos (by omega)]; congr 1; omega) | fail
  · intro j
    intro I1
    refine ⟨?_, ?_⟩
    · intro c13
      refine ⟨?_, ?_, ?_, ?_, ?_⟩
        -- 5: ((0 ≤ x1) ∧ (x1 < m))
      · first | rfl | omega | (simp [cpy, *]; done) | (simp [cpy, *]; omega) | (unfold cpy; rw [if_neg (by omega)]; done) | (unfold cpy; rw [if_pos (by omega)]; done) | (simp only [cpy]; rw [if_pos (by omega)]; congr 1; omega) | fail
        -- 6: x1 < m
      · first | rfl | omega | (simp [cpy, *]; done) | (simp [cpy, *]; omega) | (unfold cpy; rw [if_neg (by omega)]; done) | (unfold cpy; rw [if_pos (by omega)]; done) | (simp only [cpy]; rw [if_pos (by omega)]; congr 1; omega) | fail
        -- 7: ((0 ≤ x1) ∧ (x1 < m))
      · first | rfl | omega | (simp [cpy, *]; done) | (simp [cpy, *]; omega) | (unfold cpy; rw [if_neg (by omega)]; done) | (unfold cpy; rw [if_pos (by omega)]; done) | (simp only [cpy]; rw [if_pos (by omega)]; congr 1; omega) | fail
        -- 8: x1 < m
      · first | rfl | omega | (simp [cpy, *]; done) | (simp [cpy, *]; omega) | (unfold cpy; rw [if_neg (by omega)]; done) | (unfold cpy; rw [if_pos (by omega)]; done) | (simp only [cpy]; rw [if_pos (by omega)]; congr 1; omega) | fail
      · refine ⟨j + 1, ?_⟩
        try dsimp only
        refine ⟨?_, ?_, ?_⟩
          -- 9: 0 ≤ y5 ∧ y5 ≤ m
        · first | rfl | omega | (simp [cpy, *]; done) | (simp [cpy, *]; omega) | (unfold cpy; rw [if_neg (by omega)]; done) | (unfold cpy; rw [if_pos (by omega)]; done) | (simp only [cpy]; rw [if_pos (by omega)]; congr 1; omega) | fail
        · refine ⟨?_, ⟨Int.le_refl _, fun _ => fun _ => rfl⟩, rfl, ?_, ?_⟩
          · refine ⟨rfl, rfl, rfl, ?_, ?_⟩
              -- 10: (x1 + 1) = y5
            · first | rfl | omega | (simp [cpy, *]; done) | (simp [cpy, *]; omega) | (unfold cpy; rw [if_neg (by omega)]; done) | (unfold cpy; rw [if_pos (by omega)]; done) | (simp only [cpy]; rw [if_pos (by omega)]; congr 1; omega) | fail
            · intro c14
              -- 11: 0 ≤ y5 ∧ y5 ≤ 1048576
              first | rfl | omega | (simp [cpy, *]; done) | (simp [cpy, *]; omega) | (unfold cpy; rw [if_neg (by omega)]; done) | (unfold cpy; rw [if_pos (by omega)]; done) | (simp only [cpy]; rw [if_pos (by omega)]; congr 1; omega) | fail
          · intro e7
            intro c15
            -- 12: (cpy A x1 (e7.den)) = (cpy A y5 (e7.den))
            first | rfl | omega | (simp [cpy, *]; done) | (simp [cpy, *]; omega) | (unfold cpy; rw [if_neg (by omega)]; done) | (unfold cpy; rw [if_pos (by omega)]; done) | (simp only [cpy]; rw [if_pos (by omega)]; congr 1; omega) | fail
          · intro e6
            intro c16
            -- 13: ((A (x1))) = (cpy A y5 (e6.den))
            first | rfl | omega | (simp [cpy, *]; done) | (simp [cpy, *]; omega) | (unfold cpy; rw [if_neg (by omega)]; done) | (unfold cpy; rw [if_pos (by omega)]; done) | (simp only [cpy]; rw [if_pos (by omega)]; congr 1; omega) | fail
          -- 14: (m - y5).toNat < (m - x1).toNat
        · first | rfl | omega | (simp [cpy, *]; done) | (simp [cpy, *]; omega) | (unfold cpy; rw [if_neg (by omega)]; done) | (unfold cpy; rw [if_pos (by omega)]; done) | (simp only [cpy]; rw [if_pos (by omega)]; congr 1; omega) | fail
    · intro c17
      refine ⟨rfl, ⟨Int.le_refl _, fun _ => fun _ => rfl⟩, Int.le_refl _, ?_⟩
      intro e9
      intro c18
      -- 15: (cpy A x1 (e9.den)) = ((A (e9.den)))
      first | rfl | omega | (simp [cpy, *]; done) | (simp [cpy, *]; omega) | (unfold cpy; rw [if_neg (by omega)]; done) | (unfold cpy; rw [if_pos (by omega)]; done) | (simp only [cpy]; rw [if_pos (by omega)]; congr 1; omega) | fail
def c_l_toIntS (A : Int → Int) (m : Int) : Cn Try.prog := ⟨_, _, _, _, _, l_toIntS A m⟩
theorem l_FnExactCheckEnclosing (X : Int → Int) (Y : Int → Int) (n : Int) (A : Int → Int) (m : Int) : RunsTo Try.prog 3 [(.sl 0 2 (.lit 0) (.v fun _ => n) 9223372036854775807), (.sl 1 1 (.lit 0) (.v fun _ => m) 9223372036854775807)] [some ⟨50, 2, false, (.sym (.v fun _ => n) fun e => [(.int .i64 (.v fun _ => (X (e.den))) (-9223372036854775808) 9223372036854775807), (.int .i64 (.v fun _ => (Y (e.den))) (-9223372036854775808) 9223372036854775807)])⟩, some ⟨3, 1, false, (.sym (.v fun _ => m) fun e => [(.int .i64 (.v fun _ => (A (e.den))) (-9223372036854775808) 9223372036854775807)])⟩] (.bool (.lit true)) [none, none] := by
  refine RunsTo.go env Try.func3 rfl Try.call3 rfl rfl (fun _ _ => (.ite .ret (.callF (c_l_szPointS X Y n 1048576) (.ite .ret (.callF (c_l_toPointS X Y n) (.callF (c_l_toIntS A m) (.call (c_s_CheckEnclosing X Y n A m) (.callF (c_l_toPointS X Y n) (.callF (c_l_toIntS A m) (.call (c_i_CheckEnclosing X Y n A m) (.ite .ret (.callF (c_l_toPointS X Y n) (.call (c_l_eqPointS X Y n X Y n) (.ite .ret (.callF (c_l_toIntS A m) (.call (c_l_eqIntSw A m A m) (.ite .ret .ret))))))))))))))))) (G := ((0 ≤ n ∧ n ≤ 9223372036854775807) ∧ (0 ≤ m ∧ m ≤ 9223372036854775807)) → ((∀ e17 : E, ((0 ≤ e17.den ∧ e17.den < n) → (((-9223372036854775808) ≤ ((X (e17.den))) ∧ ((X (e17.den))) ≤ 9223372036854775807) ∧ ((-9223372036854775808) ≤ ((Y (e17.den))) ∧ ((Y (e17.den))) ≤ 9223372036854775807)))) ∧ (∀ e16 : E, ((0 ≤ e16.den ∧ e16.den < m) → ((-9223372036854775808) ≤ ((A (e16.den))) ∧ ((A (e16.den))) ≤ 9223372036854775807)))) → ((m ≤ 1048576) → (((n = n) ∧ ((1048576 : Int) = 1048576)) ∧ (((n ≤ n) ∧ (∀ e1 : E, ((0 ≤ e1.den ∧ e1.den < n) → ((((X (e1.den))) = ((X (e1.den)))) ∧ (((Y (e1.den))) = ((Y (e1.den)))))))) ∧ (((-1) ≤ (if 1048576 - n < 0 then -1 else 1048576 - n) ∧ (if 1048576 - n < 0 then -1 else 1048576 - n) ≤ 1048576) → ((0 ≤ (if 1048576 - n < 0 then -1 else 1048576 - n)) → (((n = n) ∧ ((n ≤ 9223372036854775807) → (n ≤ 1048576))) ∧ (((n ≤ n) ∧ (∀ e2 : E, ((0 ≤ e2.den ∧ e2.den < n) → ((((X (e2.den))) = ((X (e2.den)))) ∧ (((Y (e2.den))) = ((Y (e2.den)))))))) ∧ ((0 ≤ n ∧ n ≤ 1048576) → (((m = m) ∧ ((m ≤ 9223372036854775807) → (m ≤ 1048576))) ∧ (((m ≤ m) ∧ (∀ e3 : E, ((0 ≤ e3.den ∧ e3.den < m) → (((A (e3.den))) = ((A (e3.den))))))) ∧ ((0 ≤ m ∧ m ≤ 1048576) → (((n = n) ∧ (m = m)) ∧ ((((n ≤ n) ∧ (∀ e5 : E, ((0 ≤ e5.den ∧ e5.den < n) → ((((X (e5.den))) = ((X (e5.den)))) ∧ (((Y (e5.den))) = ((Y (e5.den)))))))) ∧ ((m ≤ m) ∧ (∀ e4 : E, ((0 ≤ e4.den ∧ e4.den < m) → (((A (e4.den))) = ((A (e4.den)))))))) ∧ (((n = n) ∧ ((n ≤ 9223372036854775807) → (n ≤ 1048576))) ∧ (((n ≤ n) ∧ (∀ e6 : E, ((0 ≤ e6.den ∧ e6.den < n) → ((((X (e6.den))) = ((X (e6.den)))) ∧ (((Y (e6.den))) = ((Y (e6.den)))))))) ∧ ((0 ≤ n ∧ n ≤ 1048576) → (((m = m) ∧ ((m ≤ 9223372036854775807) → (m ≤ 1048576))) ∧ (((m ≤ m) ∧ (∀ e7 : E, ((0 ≤ e7.den ∧ e7.den < m) → (((A (e7.den))) = ((A (e7.den))))))) ∧ ((0 ≤ m ∧ m ≤ 1048576) → (((n = n) ∧ (m = m)) ∧ ((((n ≤ n) ∧ (∀ e9 : E, ((0 ≤ e9.den ∧ e9.den < n) → ((((X (e9.den))) = ((X (e9.den)))) ∧ (((Y (e9.den))) = ((Y (e9.den)))))))) ∧ ((m ≤ m) ∧ (∀ e8 : E, ((0 ≤ e8.den ∧ e8.den < m) → (((A (e8.den))) = ((A (e8.den)))))))) ∧ ((((((ckB X Y n A m) = true) ↔ ((ckB X Y n A m) = false))) → (False)) ∧ (((((ckB X Y n A m) = true) ↔ ((ckB X Y n A m) = true))) → (((n = n) ∧ ((n ≤ 9223372036854775807) → (n ≤ 1048576))) ∧ (((n ≤ n) ∧ (∀ e10 : E, ((0 ≤ e10.den ∧ e10.den < n) → ((((X (e10.den))) = ((X (e10.den)))) ∧ (((Y (e10.den))) = ((Y (e10.den)))))))) ∧ ((0 ≤ n ∧ n ≤ 1048576) → (((n = n) ∧ (n = n)) ∧ ((((n ≤ n) ∧ (∀ e12 : E, ((0 ≤ e12.den ∧ e12.den < n) → ((((X (e12.den))) = ((X (e12.den)))) ∧ (((Y (e12.den))) = ((Y (e12.den)))))))) ∧ ((n ≤ n) ∧ (∀ e11 : E, ((0 ≤ e11.den ∧ e11.den < n) → ((((X (e11.den))) = ((X (e11.den)))) ∧ (((Y (e11.den))) = ((Y (e11.den))))))))) ∧ ((((eqP X Y n X Y n) = false) → (False)) ∧ (((eqP X Y n X Y n) = true) → (((m = m) ∧ ((m ≤ 9223372036854775807) → (m ≤ 1048576))) ∧ (((m ≤ m) ∧ (∀ e13 : E, ((0 ≤ e13.den ∧ e13.den < m) → (((A (e13.den))) = ((A (e13.den))))))) ∧ ((0 ≤ m ∧ m ≤ 1048576) → (((m = m) ∧ (m = m)) ∧ ((((m ≤ m) ∧ (∀ e15 : E, ((0 ≤ e15.den ∧ e15.den < m) → (((A (e15.den))) = ((A (e15.den))))))) ∧ ((m ≤ m) ∧ (∀ e14 : E, ((0 ≤ e14.den ∧ e14.den < m) → (((A (e14.den))) = ((A (e14.den)))))))) ∧ (((eqB A m A m) = false) → (False)))))))))))))))))))))))))))))))))))))) (by kernel_rfl) ?_
  intro h1 h2
  intro c18
  refine ⟨⟨rfl, rfl⟩, ⟨Int.le_refl _, fun _ => fun _ => ⟨rfl, rfl⟩⟩, ?_⟩
  intro c19
  intro c20
  refine ⟨?_, ⟨Int.le_refl _, fun _ => fun _ => ⟨rfl, rfl⟩⟩, ?_⟩
  · refine ⟨rfl, ?_⟩
    intro c21
    -- 1: n ≤ 1048576
    first | rfl | omega | exact eqB_refl _ _ | exact eqP_refl _ _ _ | (simp_all [eqB_refl, eqP_refl]; done) | (simp_all [eqB_refl, eqP_refl]; omega) | fail
  · intro c22
    refine ⟨?_, ⟨Int.le_refl _, fun _ => fun _ => rfl⟩, ?_⟩
    · refine ⟨rfl, ?_⟩
      intro c23
      -- 2: m ≤ 1048576
      first | rfl | omega | exact eqB_refl _ _ | exact eqP_refl _ _ _ | (simp_all [eqB_refl, eqP_refl]; done) | (simp_all [eqB_refl, eqP_refl]; omega) | fail
    · intro c24
      refine ⟨⟨rfl, rfl⟩, ⟨⟨Int.le_refl _, fun _ => fun _ => ⟨rfl, rfl⟩⟩, ⟨Int.le_refl _, fun _ => fun _ => rfl⟩⟩, ?_, ⟨Int.le_refl _, fun _ => fun _ => ⟨rfl, rfl⟩⟩, ?_⟩
      · refine ⟨rfl, ?_⟩
        intro c25
        -- 3: n ≤ 1048576
        first | rfl | omega | exact eqB_refl _ _ | exact eqP_refl _ _ _ | (simp_all [eqB_refl, eqP_refl]; done) | (simp_all [eqB_refl, eqP_refl]; omega) | fail
      · intro c26
        refine ⟨?_, ⟨Int.le_refl _, fun _ => fun _ => rfl⟩, ?_⟩
        · refine ⟨rfl, ?_⟩
          intro c27
          -- 4: m ≤ 1048576
          first | rfl | omega | exact eqB_refl _ _ | exact eqP_refl _ _ _ | (simp_all [eqB_refl, eqP_refl]; done) | (simp_all [eqB_refl, eqP_refl]; omega) | fail
        · intro c28
          refine ⟨⟨rfl, rfl⟩, ⟨⟨Int.le_refl _, fun _ => fun _ => ⟨rfl, rfl⟩⟩, ⟨Int.le_refl _, fun _ => fun _ => rfl⟩⟩, ?_, ?_⟩
          · intro c29
            -- 5: False
            first | rfl | omega | exact eqB_refl _ _ | exact eqP_refl _ _ _ | (simp_all [eqB_refl, eqP_refl]; done) | (simp_all [eqB_refl, eqP_refl]; omega) | fail
          · intro c30
            refine ⟨?_, ⟨Int.le_refl _, fun _ => fun _ => ⟨rfl, rfl⟩⟩, ?_⟩
            · refine ⟨rfl, ?_⟩
              intro c31
              -- 6: n ≤ 1048576
              first | rfl | omega | exact eqB_refl _ _ | exact eqP_refl _ _ _ | (simp_all [eqB_refl, eqP_refl]; done) | (simp_all [eqB_refl, eqP_refl]; omega) | fail
            · intro c32
              refine ⟨⟨rfl, rfl⟩, ⟨⟨Int.le_refl _, fun _ => fun _ => ⟨rfl, rfl⟩⟩, ⟨Int.le_refl _, fun _ => fun _ => ⟨rfl, rfl⟩⟩⟩, ?_, ?_⟩
              · intro c33
                -- 7: False
                first | rfl | omega | exact eqB_refl _ _ | exact eqP_refl _ _ _ | (simp_all [eqB_refl, eqP_refl]; done) | (simp_all [eqB_refl, eqP_refl]; omega) | fail
              · intro c34
                refine ⟨?_, ⟨Int.le_refl _, fun _ => fun _ => rfl⟩, ?_⟩
                · refine ⟨rfl, ?_⟩
                  intro c35
                  -- 8: m ≤ 1048576
                  first | rfl | omega | exact eqB_refl _ _ | exact eqP_refl _ _ _ | (simp_all [eqB_refl, eqP_refl]; done) | (simp_all [eqB_refl, eqP_refl]; omega) | fail
                · intro c36
                  refine ⟨⟨rfl, rfl⟩, ⟨⟨Int.le_refl _, fun _ => fun _ => rfl⟩, ⟨Int.le_refl _, fun _ => fun _ => rfl⟩⟩, ?_⟩
                  intro c37
                  -- 9: False
                  first | rfl | omega | exact eqB_refl _ _ | exact eqP_refl _ _ _ | (simp_all [eqB_refl, eqP_refl]; done) | (simp_all [eqB_refl, eqP_refl]; omega) | fail
def c_l_FnExactCheckEnclosing (X : Int → Int) (Y : Int → Int) (n : Int) (A : Int → Int) (m : Int) : Cn Try.prog := ⟨_, _, _, _, _, l_FnExactCheckEnclosing X Y n A m⟩
end Go.Proofs.Ythedmdhllcgpcaa
