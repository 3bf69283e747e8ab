/- What only reads: supports of circles. -/
import Derived.Test.YtcfkpdjbjfnnmaaK25
set_option linter.unusedSimpArgs false
set_option linter.unusedVariables false
set_option maxRecDepth 100000
namespace Go.Proofs.Ytcfkpdjbjfnnmaa
open Go.Sym
theorem IndexFunc_p1_q (X : Int → Int) (Y : Int → Int) (n : Int) : RunsTo Try.prog 137 [(.sl 0 2 (.lit 0) (.v fun _ => n) 1048576), (.fn 130 [])] [some ⟨50, 2, false, (.sym (.v fun _ => n) fun e => [(.int .i64 (.v fun _ => (X (e.den))) (-9223372036854775808) 9223372036854775807), (.int .i64 (.v fun _ => (Y (e.den))) (-9223372036854775808) 9223372036854775807)])⟩] (.int .i64 (.v fun _ => fidx (fun i => !(okP (X (i)) (Y (i)))) n) (-1) 1048576) [some ⟨50, 2, false, (.sym (.v fun _ => n) fun e => [(.int .i64 (.v fun _ => (X (e.den))) (-9223372036854775808) 9223372036854775807), (.int .i64 (.v fun _ => (Y (e.den))) (-9223372036854775808) 9223372036854775807)])⟩] := by
  refine RunsTo.go env Try.func137 rfl Try.call137 rfl rfl (fun _ _ => (.loop [] [0] (Int) (fun x1 => ⟨spl 19 0 [(0, (.sl 0 2 (.lit 0) (.v fun _ => n) 1048576)), (1, (.fn 130 [])), (7, (.int .i64 (.v fun _ => n) 0 1048576)), (8, (.int .i64 (.v fun _ => x1) 0 1048576))], [some ⟨50, 2, false, (.sym (.v fun _ => n) fun e => [(.int .i64 (.v fun _ => (X (e.den))) (-9223372036854775808) 9223372036854775807), (.int .i64 (.v fun _ => (Y (e.den))) (-9223372036854775808) 9223372036854775807)])⟩], 1⟩) (fun x1 => (0 ≤ x1 ∧ x1 ≤ n) ∧ ∀ i, 0 ≤ i → i < x1 → (!(okP (X (i)) (Y (i)))) = false) (fun x1 => (n - x1).toNat) fun x1 => (.ite (.need (.need (.call (c_i_allValid1 ((X (x1))) ((Y (x1)))) (.ite (.out .ret) (.next [0]))))) (.out .ret)))) (G := (0 ≤ n ∧ n ≤ 1048576) → (∀ e8 : E, ((0 ≤ e8.den ∧ e8.den < n) → (((-9223372036854775808) ≤ ((X (e8.den))) ∧ ((X (e8.den))) ≤ 9223372036854775807) ∧ ((-9223372036854775808) ≤ ((Y (e8.den))) ∧ ((Y (e8.den))) ≤ 9223372036854775807)))) → ((∃ y2 : Int, (((0 ≤ y2 ∧ y2 ≤ n) ∧ ∀ i, 0 ≤ i → i < y2 → (!(okP (X (i)) (Y (i)))) = false) ∧ (((n = n) ∧ ((n = n) ∧ ((0 : Int) = y2))) ∧ ((n ≤ n) ∧ (∀ e3 : E, ((0 ≤ e3.den ∧ e3.den < n) → ((((X (e3.den))) = ((X (e3.den)))) ∧ (((Y (e3.den))) = ((Y (e3.den))))))))))) ∧ (∀ x1 : Int, (((0 ≤ x1 ∧ x1 ≤ n) ∧ ∀ i, 0 ≤ i → i < x1 → (!(okP (X (i)) (Y (i)))) = false) → (((x1 < n) → ((((0 ≤ x1) ∧ (x1 < n))) ∧ ((x1 < n) ∧ (((((X (x1))) = ((X (x1)))) ∧ (((Y (x1))) = ((Y (x1))))) ∧ ((((!(okP ((X (x1))) ((Y (x1))))) = true) → ((x1 = (fidx (fun i => !(okP (X (i)) (Y (i)))) n)) ∧ ((n ≤ n) ∧ (∀ e4 : E, ((0 ≤ e4.den ∧ e4.den < n) → ((((X (e4.den))) = ((X (e4.den)))) ∧ (((Y (e4.den))) = ((Y (e4.den)))))))))) ∧ (((!(okP ((X (x1))) ((Y (x1))))) = false) → (∃ y5 : Int, (((0 ≤ y5 ∧ y5 ≤ n) ∧ ∀ i, 0 ≤ i → i < y5 → (!(okP (X (i)) (Y (i)))) = false) ∧ ((((n = n) ∧ ((n = n) ∧ (((x1 + 1) = y5) ∧ ((1 ≤ (x1 + 1) ∧ (x1 + 1) ≤ 1048577) → (0 ≤ y5 ∧ y5 ≤ 1048576))))) ∧ ((n ≤ n) ∧ (∀ e6 : E, ((0 ≤ e6.den ∧ e6.den < n) → ((((X (e6.den))) = ((X (e6.den)))) ∧ (((Y (e6.den))) = ((Y (e6.den))))))))) ∧ ((n - y5).toNat < (n - x1).toNat)))))))))) ∧ ((n ≤ x1) → ((((-1) : Int) = (fidx (fun i => !(okP (X (i)) (Y (i)))) n)) ∧ ((n ≤ n) ∧ (∀ e7 : E, ((0 ≤ e7.den ∧ e7.den < n) → ((((X (e7.den))) = ((X (e7.den)))) ∧ (((Y (e7.den))) = ((Y (e7.den))))))))))))))) (by kernel_rfl) ?_
  intro h1 h2
  have hn := h1.1
  have hb := fidx_bd (fun i => !(okP (X i) (Y i))) h1.1
  refine ⟨?_, ?_⟩
  · refine ⟨0, ?_⟩
    try dsimp only
    refine ⟨?_, ?_, Int.le_refl _, fun _ => fun _ => ⟨rfl, rfl⟩⟩
    · exact ⟨by omega, fun i a b => by omega⟩
    · refine ⟨rfl, rfl, ?_⟩
      rfl
  · intro j
    intro I1
    refine ⟨?_, ?_⟩
    · intro c9
      refine ⟨?_, ?_, ⟨rfl, rfl⟩, ?_, ?_⟩
      · omega
      · omega
      · intro c10
        refine ⟨?_, Int.le_refl _, fun _ => fun _ => ⟨rfl, rfl⟩⟩
        exact (fidx_found I1.1.1 (by omega) (by assumption) I1.2).symm
      · intro c11
        refine ⟨j + 1, ?_⟩
        try dsimp only
        refine ⟨?_, ?_, ?_⟩
        · refine ⟨by omega, fun i a b => ?_⟩; by_cases e : i = j; (subst e; assumption); exact I1.2 i a (by omega)
        · refine ⟨?_, Int.le_refl _, fun _ => fun _ => ⟨rfl, rfl⟩⟩
          refine ⟨rfl, rfl, ?_, ?_⟩
          · rfl
          · intro c12
            omega
        · omega
    · intro c13
      refine ⟨?_, Int.le_refl _, fun _ => fun _ => ⟨rfl, rfl⟩⟩
      exact (fidx_none fun i a b => I1.2 i a (by omega)).symm
def c_IndexFunc_p1_q (X : Int → Int) (Y : Int → Int) (n : Int) : Cn Try.prog := ⟨_, _, _, _, _, IndexFunc_p1_q X Y n⟩
theorem ContainsFunc_p1_q (X : Int → Int) (Y : Int → Int) (n : Int) : RunsTo Try.prog 117 [(.sl 0 2 (.lit 0) (.v fun _ => n) 1048576), (.fn 130 [])] [some ⟨50, 2, false, (.sym (.v fun _ => n) fun e => [(.int .i64 (.v fun _ => (X (e.den))) (-9223372036854775808) 9223372036854775807), (.int .i64 (.v fun _ => (Y (e.den))) (-9223372036854775808) 9223372036854775807)])⟩] (.bool (.v fun _ => decide (0 ≤ fidx (fun i => !(okP (X (i)) (Y (i)))) n))) [some ⟨50, 2, false, (.sym (.v fun _ => n) fun e => [(.int .i64 (.v fun _ => (X (e.den))) (-9223372036854775808) 9223372036854775807), (.int .i64 (.v fun _ => (Y (e.den))) (-9223372036854775808) 9223372036854775807)])⟩] := by
  refine RunsTo.go env Try.func117 rfl Try.call117 rfl rfl (fun _ _ => (.call (c_IndexFunc_p1_q X Y n) .ret)) (G := (0 ≤ n ∧ n ≤ 1048576) → (∀ e3 : E, ((0 ≤ e3.den ∧ e3.den < n) → (((-9223372036854775808) ≤ ((X (e3.den))) ∧ ((X (e3.den))) ≤ 9223372036854775807) ∧ ((-9223372036854775808) ≤ ((Y (e3.den))) ∧ ((Y (e3.den))) ≤ 9223372036854775807)))) → ((n = n) ∧ (((n ≤ n) ∧ (∀ e1 : E, ((0 ≤ e1.den ∧ e1.den < n) → ((((X (e1.den))) = ((X (e1.den)))) ∧ (((Y (e1.den))) = ((Y (e1.den)))))))) ∧ (((0 ≤ (fidx (fun i => !(okP ((X (i))) ((Y (i))))) n)) ↔ ((decide (0 ≤ fidx (fun i => !(okP (X (i)) (Y (i)))) n)) = true)) ∧ ((n ≤ n) ∧ (∀ e2 : E, ((0 ≤ e2.den ∧ e2.den < n) → ((((X (e2.den))) = ((X (e2.den)))) ∧ (((Y (e2.den))) = ((Y (e2.den)))))))))))) (by kernel_rfl) ?_
  intro h1 h2
  refine ⟨rfl, ⟨Int.le_refl _, fun _ => fun _ => ⟨rfl, rfl⟩⟩, ?_, Int.le_refl _, fun _ => fun _ => ⟨rfl, rfl⟩⟩
  -- 1: (0 ≤ (fidx (fun i => !(okP ((X (i))) ((Y (i))))) n)) ↔ ((decide (0 ≤ fidx (fun i => !(okP (X (i)) (Y
  simp
def c_ContainsFunc_p1_q (X : Int → Int) (Y : Int → Int) (n : Int) : Cn Try.prog := ⟨_, _, _, _, _, ContainsFunc_p1_q X Y n⟩
theorem i_allValid_q (X : Int → Int) (Y : Int → Int) (n : Int) : RunsTo Try.prog 97 [(.sl 0 2 (.lit 0) (.v fun _ => n) 1048576)] [some ⟨50, 2, false, (.sym (.v fun _ => n) fun e => [(.int .i64 (.v fun _ => (X (e.den))) (-9223372036854775808) 9223372036854775807), (.int .i64 (.v fun _ => (Y (e.den))) (-9223372036854775808) 9223372036854775807)])⟩] (.bool (.v fun _ => allB (fun i => okP (X (i)) (Y (i))) n)) [some ⟨50, 2, false, (.sym (.v fun _ => n) fun e => [(.int .i64 (.v fun _ => (X (e.den))) (-9223372036854775808) 9223372036854775807), (.int .i64 (.v fun _ => (Y (e.den))) (-9223372036854775808) 9223372036854775807)])⟩] := by
  refine RunsTo.go env Try.func97 rfl Try.call97 rfl rfl (fun _ _ => (.call (c_ContainsFunc_p1_q X Y n) .ret)) (G := (0 ≤ n ∧ n ≤ 1048576) → (∀ e3 : E, ((0 ≤ e3.den ∧ e3.den < n) → (((-9223372036854775808) ≤ ((X (e3.den))) ∧ ((X (e3.den))) ≤ 9223372036854775807) ∧ ((-9223372036854775808) ≤ ((Y (e3.den))) ∧ ((Y (e3.den))) ≤ 9223372036854775807)))) → ((n = n) ∧ (((n ≤ n) ∧ (∀ e1 : E, ((0 ≤ e1.den ∧ e1.den < n) → ((((X (e1.den))) = ((X (e1.den)))) ∧ (((Y (e1.den))) = ((Y (e1.den)))))))) ∧ ((((decide (0 ≤ fidx (fun i => !(okP ((X (i))) ((Y (i))))) n)) = false) ↔ ((allB (fun i => okP (X (i)) (Y (i))) n) = true)) ∧ ((n ≤ n) ∧ (∀ e2 : E, ((0 ≤ e2.den ∧ e2.den < n) → ((((X (e2.den))) = ((X (e2.den)))) ∧ (((Y (e2.den))) = ((Y (e2.den)))))))))))) (by kernel_rfl) ?_
  intro h1 h2
  refine ⟨rfl, ⟨Int.le_refl _, fun _ => fun _ => ⟨rfl, rfl⟩⟩, ?_, Int.le_refl _, fun _ => fun _ => ⟨rfl, rfl⟩⟩
  -- 1: ((decide (0 ≤ fidx (fun i => !(okP ((X (i))) ((Y (i))))) n)) = false) ↔ ((allB (fun i => okP (X (i))
  rw [← fidx_neg]; simp
def c_i_allValid_q (X : Int → Int) (Y : Int → Int) (n : Int) : Cn Try.prog := ⟨_, _, _, _, _, i_allValid_q X Y n⟩
theorem i_listOk_q (X : Int → Int) (Y : Int → Int) (n : Int) : RunsTo Try.prog 70 [(.sl 0 2 (.lit 0) (.v fun _ => n) 1048576)] [some ⟨50, 2, false, (.sym (.v fun _ => n) fun e => [(.int .i64 (.v fun _ => (X (e.den))) (-9223372036854775808) 9223372036854775807), (.int .i64 (.v fun _ => (Y (e.den))) (-9223372036854775808) 9223372036854775807)])⟩] (.bool (.v fun _ => listB X Y n)) [some ⟨50, 2, false, (.sym (.v fun _ => n) fun e => [(.int .i64 (.v fun _ => (X (e.den))) (-9223372036854775808) 9223372036854775807), (.int .i64 (.v fun _ => (Y (e.den))) (-9223372036854775808) 9223372036854775807)])⟩] := by
  refine RunsTo.go env Try.func70 rfl Try.call70 rfl rfl (fun _ _ => (.ite (.call (c_i_allValid_q X Y n) .ret) .ret)) (G := (0 ≤ n ∧ n ≤ 1048576) → (∀ e4 : E, ((0 ≤ e4.den ∧ e4.den < n) → (((-9223372036854775808) ≤ ((X (e4.den))) ∧ ((X (e4.den))) ≤ 9223372036854775807) ∧ ((-9223372036854775808) ≤ ((Y (e4.den))) ∧ ((Y (e4.den))) ≤ 9223372036854775807)))) → (((n ≤ 20) → ((n = n) ∧ (((n ≤ n) ∧ (∀ e1 : E, ((0 ≤ e1.den ∧ e1.den < n) → ((((X (e1.den))) = ((X (e1.den)))) ∧ (((Y (e1.den))) = ((Y (e1.den)))))))) ∧ ((((allB (fun i => okP ((X (i))) ((Y (i)))) n) = true) ↔ ((listB X Y n) = true)) ∧ ((n ≤ n) ∧ (∀ e2 : E, ((0 ≤ e2.den ∧ e2.den < n) → ((((X (e2.den))) = ((X (e2.den)))) ∧ (((Y (e2.den))) = ((Y (e2.den)))))))))))) ∧ ((20 < n) → (((listB X Y n) = false) ∧ ((n ≤ n) ∧ (∀ e3 : E, ((0 ≤ e3.den ∧ e3.den < n) → ((((X (e3.den))) = ((X (e3.den)))) ∧ (((Y (e3.den))) = ((Y (e3.den)))))))))))) (by kernel_rfl) ?_
  intro h1 h2
  refine ⟨?_, ?_⟩
  · intro c5
    refine ⟨rfl, ⟨Int.le_refl _, fun _ => fun _ => ⟨rfl, rfl⟩⟩, ?_, Int.le_refl _, fun _ => fun _ => ⟨rfl, rfl⟩⟩
    -- 1: ((allB (fun i => okP ((X (i))) ((Y (i)))) n) = true) ↔ ((listB X Y n) = true)
    simp [listB]; try omega
  · intro c6
    refine ⟨?_, Int.le_refl _, fun _ => fun _ => ⟨rfl, rfl⟩⟩
    -- 2: (listB X Y n) = false
    simp [listB]; try omega
def c_i_listOk_q (X : Int → Int) (Y : Int → Int) (n : Int) : Cn Try.prog := ⟨_, _, _, _, _, i_listOk_q X Y n⟩
theorem s_validPoints_q (X : Int → Int) (Y : Int → Int) (n : Int) : RunsTo Try.prog 50 [(.sl 0 2 (.lit 0) (.v fun _ => n) 1048576)] [some ⟨50, 2, false, (.sym (.v fun _ => n) fun e => [(.int .i64 (.v fun _ => (X (e.den))) (-9223372036854775808) 9223372036854775807), (.int .i64 (.v fun _ => (Y (e.den))) (-9223372036854775808) 9223372036854775807)])⟩] (.bool (.v fun _ => listB X Y n)) [some ⟨50, 2, false, (.sym (.v fun _ => n) fun e => [(.int .i64 (.v fun _ => (X (e.den))) (-9223372036854775808) 9223372036854775807), (.int .i64 (.v fun _ => (Y (e.den))) (-9223372036854775808) 9223372036854775807)])⟩] := by
  refine RunsTo.go env Try.func50 rfl Try.call50 rfl rfl (fun _ _ => (.loop [] [0] (Int) (fun x1 => ⟨spl 19 0 [(0, (.sl 0 2 (.lit 0) (.v fun _ => n) 1048576)), (3, (.int .i64 (.v fun _ => x1) 0 1048576))], [some ⟨50, 2, false, (.sym (.v fun _ => n) fun e => [(.int .i64 (.v fun _ => (X (e.den))) (-9223372036854775808) 9223372036854775807), (.int .i64 (.v fun _ => (Y (e.den))) (-9223372036854775808) 9223372036854775807)])⟩], 1⟩) (fun x1 => (0 ≤ x1 ∧ x1 ≤ n) ∧ ∀ i, 0 ≤ i → i < x1 → okP (X (i)) (Y (i)) = true) (fun x1 => (n - x1).toNat) fun x1 => (.ite (.need (.need (.call (c_s_validPoint ((X (x1))) ((Y (x1)))) (.ite (.out .ret) (.next [0]))))) (.out .ret)))) (G := (0 ≤ n ∧ n ≤ 1048576) → (∀ e8 : E, ((0 ≤ e8.den ∧ e8.den < n) → (((-9223372036854775808) ≤ ((X (e8.den))) ∧ ((X (e8.den))) ≤ 9223372036854775807) ∧ ((-9223372036854775808) ≤ ((Y (e8.den))) ∧ ((Y (e8.den))) ≤ 9223372036854775807)))) → ((∃ y2 : Int, (((0 ≤ y2 ∧ y2 ≤ n) ∧ ∀ i, 0 ≤ i → i < y2 → okP (X (i)) (Y (i)) = true) ∧ (((n = n) ∧ ((0 : Int) = y2)) ∧ ((n ≤ n) ∧ (∀ e3 : E, ((0 ≤ e3.den ∧ e3.den < n) → ((((X (e3.den))) = ((X (e3.den)))) ∧ (((Y (e3.den))) = ((Y (e3.den))))))))))) ∧ (∀ x1 : Int, (((0 ≤ x1 ∧ x1 ≤ n) ∧ ∀ i, 0 ≤ i → i < x1 → okP (X (i)) (Y (i)) = true) → (((x1 < n) → ((((0 ≤ x1) ∧ (x1 < n))) ∧ ((x1 < n) ∧ (((((X (x1))) = ((X (x1)))) ∧ (((Y (x1))) = ((Y (x1))))) ∧ ((((okP ((X (x1))) ((Y (x1)))) = false) → (((listB X Y n) = false) ∧ ((n ≤ n) ∧ (∀ e4 : E, ((0 ≤ e4.den ∧ e4.den < n) → ((((X (e4.den))) = ((X (e4.den)))) ∧ (((Y (e4.den))) = ((Y (e4.den)))))))))) ∧ (((okP ((X (x1))) ((Y (x1)))) = true) → (∃ y5 : Int, (((0 ≤ y5 ∧ y5 ≤ n) ∧ ∀ i, 0 ≤ i → i < y5 → okP (X (i)) (Y (i)) = true) ∧ ((((n = n) ∧ (((x1 + 1) = y5) ∧ ((1 ≤ (x1 + 1) ∧ (x1 + 1) ≤ 1048577) → (0 ≤ y5 ∧ y5 ≤ 1048576)))) ∧ ((n ≤ n) ∧ (∀ e6 : E, ((0 ≤ e6.den ∧ e6.den < n) → ((((X (e6.den))) = ((X (e6.den)))) ∧ (((Y (e6.den))) = ((Y (e6.den))))))))) ∧ ((n - y5).toNat < (n - x1).toNat)))))))))) ∧ ((n ≤ x1) → (((n ≤ 20) ↔ ((listB X Y n) = true)) ∧ ((n ≤ n) ∧ (∀ e7 : E, ((0 ≤ e7.den ∧ e7.den < n) → ((((X (e7.den))) = ((X (e7.den)))) ∧ (((Y (e7.den))) = ((Y (e7.den))))))))))))))) (by kernel_rfl) ?_
  intro h1 h2
  refine ⟨?_, ?_⟩
  · refine ⟨0, ?_⟩
    try dsimp only
    refine ⟨?_, ?_, Int.le_refl _, fun _ => fun _ => ⟨rfl, rfl⟩⟩
    · refine ⟨by omega, fun i a b => ?_⟩; (exfalso; omega)
    · refine ⟨rfl, ?_⟩
      rfl
  · intro j
    intro I1
    refine ⟨?_, ?_⟩
    · intro c9
      refine ⟨?_, ?_, ⟨rfl, rfl⟩, ?_, ?_⟩
      · omega
      · omega
      · intro c10
        refine ⟨?_, Int.le_refl _, fun _ => fun _ => ⟨rfl, rfl⟩⟩
        simp [listB, allB_false (q := fun i => okP (X i) (Y i)) I1.1.1 (by omega) (by assumption)]
      · intro c11
        refine ⟨j + 1, ?_⟩
        try dsimp only
        refine ⟨?_, ?_, ?_⟩
        · refine ⟨by omega, fun i a b => ?_⟩; (by_cases e : i = j; (subst e; assumption); exact I1.2 i a (by omega))
        · refine ⟨?_, Int.le_refl _, fun _ => fun _ => ⟨rfl, rfl⟩⟩
          refine ⟨rfl, ?_, ?_⟩
          · rfl
          · intro c12
            omega
        · omega
    · intro c13
      refine ⟨?_, Int.le_refl _, fun _ => fun _ => ⟨rfl, rfl⟩⟩
      have e : allB (fun i => okP (X i) (Y i)) n = true := allB_iff.2 fun i a b => I1.2 i a (by omega); simp [listB, e]
def c_s_validPoints_q (X : Int → Int) (Y : Int → Int) (n : Int) : Cn Try.prog := ⟨_, _, _, _, _, s_validPoints_q X Y n⟩
theorem i_chosen_q (X : Int → Int) (Y : Int → Int) (n : Int) (A : Int → Int) (m : Int) (hp : ∀ i, 0 ≤ i → i < m → 0 ≤ A i ∧ A i < n) : RunsTo Try.prog 77 [(.sl 0 2 (.lit 0) (.v fun _ => n) 1048576), (.sl 1 1 (.lit 0) (.v fun _ => m) 1048576)] [some ⟨50, 2, false, (.sym (.v fun _ => n) fun e => [(.int .i64 (.v fun _ => (X (e.den))) (-1000) 1000), (.int .i64 (.v fun _ => (Y (e.den))) (-1000) 1000)])⟩, some ⟨3, 1, false, (.sym (.v fun _ => m) fun e => [(.int .i64 (.v fun _ => (A (e.den))) (-9223372036854775808) 9223372036854775807)])⟩] (.sl 2 2 (.lit 0) (.v fun _ => m) 1048576) [some ⟨50, 2, false, (.sym (.v fun _ => n) fun e => [(.int .i64 (.v fun _ => (X (e.den))) (-1000) 1000), (.int .i64 (.v fun _ => (Y (e.den))) (-1000) 1000)])⟩, some ⟨3, 1, false, (.sym (.v fun _ => m) fun e => [(.int .i64 (.v fun _ => (A (e.den))) (-9223372036854775808) 9223372036854775807)])⟩, some ⟨50, 2, true, (.sym (.v fun _ => m) fun e => [(.int .i64 (.v fun _ => (X ((A (e.den))))) (-1000) 1000), (.int .i64 (.v fun _ => (Y ((A (e.den))))) (-1000) 1000)])⟩] := by
  refine RunsTo.go env Try.func77 rfl Try.call77 rfl rfl (fun _ _ => (.need (.loop [] [0, 1, 2] (Int) (fun x1 => ⟨spl 26 0 [(0, (.sl 0 2 (.lit 0) (.v fun _ => n) 1048576)), (4, (.raw (.slice none 0 0))), (5, (.sl 2 2 (.lit 0) (.v fun _ => x1) 1048576)), (11, (.sl 1 1 (.lit 0) (.v fun _ => m) 1048576)), (12, (.int .i64 (.v fun _ => m) 0 1048576)), (13, (.int .i64 (.v fun _ => x1) 0 1048576))], [some ⟨50, 2, false, (.sym (.v fun _ => n) fun e => [(.int .i64 (.v fun _ => (X (e.den))) (-1000) 1000), (.int .i64 (.v fun _ => (Y (e.den))) (-1000) 1000)])⟩, some ⟨3, 1, false, (.sym (.v fun _ => m) fun e => [(.int .i64 (.v fun _ => (A (e.den))) (-9223372036854775808) 9223372036854775807)])⟩, some ⟨50, 2, true, (.sym (.v fun _ => x1) fun e => [(.int .i64 (.v fun _ => (X ((A ((e.den)))))) (-1000) 1000), (.int .i64 (.v fun _ => (Y ((A ((e.den)))))) (-1000) 1000)])⟩], 2⟩) (fun x1 => 0 ≤ x1 ∧ x1 ≤ m) (fun x1 => (m - x1).toNat) fun x1 => (.ite (.need (.need (.need (.need (.need (.next [0, 1, 2])))))) (.out .ret))))) (G := ((0 ≤ n ∧ n ≤ 1048576) ∧ (0 ≤ m ∧ m ≤ 1048576)) → ((∀ e14 : E, ((0 ≤ e14.den ∧ e14.den < n) → (((-1000) ≤ ((X (e14.den))) ∧ ((X (e14.den))) ≤ 1000) ∧ ((-1000) ≤ ((Y (e14.den))) ∧ ((Y (e14.den))) ≤ 1000)))) ∧ (∀ e13 : E, ((0 ≤ e13.den ∧ e13.den < m) → ((-9223372036854775808) ≤ ((A (e13.den))) ∧ ((A (e13.den))) ≤ 9223372036854775807)))) → ((0 ≤ m) ∧ ((∃ y2 : Int, ((0 ≤ y2 ∧ y2 ≤ m) ∧ (((n = n) ∧ ((((.slice none 0 0) : Value) = (.slice none 0 0)) ∧ (((0 : Int) = y2) ∧ ((m = m) ∧ ((m = m) ∧ ((0 : Int) = y2)))))) ∧ (((n ≤ n) ∧ (∀ e4 : E, ((0 ≤ e4.den ∧ e4.den < n) → ((((X (e4.den))) = ((X (e4.den)))) ∧ (((Y (e4.den))) = ((Y (e4.den)))))))) ∧ (((m ≤ m) ∧ (∀ e3 : E, ((0 ≤ e3.den ∧ e3.den < m) → (((A (e3.den))) = ((A (e3.den))))))) ∧ (y2 = 0)))))) ∧ (∀ x1 : Int, ((0 ≤ x1 ∧ x1 ≤ m) → (((x1 < m) → ((((0 ≤ x1) ∧ (x1 < m))) ∧ ((x1 < m) ∧ ((((0 ≤ ((A (x1)))) ∧ (((A (x1))) < n))) ∧ ((((A (x1))) < n) ∧ ((x1 = x1) ∧ (∃ y5 : Int, ((0 ≤ y5 ∧ y5 ≤ m) ∧ ((((n = n) ∧ ((((.slice none 0 0) : Value) = (.slice none 0 0)) ∧ ((((x1 + 1) = y5) ∧ (((x1 + 1) ≤ 1048577) → (y5 ≤ 1048576))) ∧ ((m = m) ∧ ((m = m) ∧ (((x1 + 1) = y5) ∧ ((1 ≤ (x1 + 1) ∧ (x1 + 1) ≤ 1048577) → (0 ≤ y5 ∧ y5 ≤ 1048576)))))))) ∧ (((n ≤ n) ∧ (∀ e9 : E, ((0 ≤ e9.den ∧ e9.den < n) → ((((X (e9.den))) = ((X (e9.den)))) ∧ (((Y (e9.den))) = ((Y (e9.den)))))))) ∧ (((m ≤ m) ∧ (∀ e8 : E, ((0 ≤ e8.den ∧ e8.den < m) → (((A (e8.den))) = ((A (e8.den))))))) ∧ (((0 : Int) ≤ x1 ∧ y5 = x1 + 1) ∧ (((x1 ≤ x1) ∧ (∀ e7 : E, ((0 ≤ e7.den ∧ e7.den < x1) → ((((X ((A ((e7.den)))))) = ((X ((A ((e7.den))))))) ∧ (((Y ((A ((e7.den)))))) = ((Y ((A ((e7.den))))))))))) ∧ (∀ e6 : E, ((e6.den = x1) → ((((X ((A (x1))))) = ((X ((A ((e6.den))))))) ∧ (((Y ((A (x1))))) = ((Y ((A ((e6.den))))))))))))))) ∧ ((m - y5).toNat < (m - x1).toNat)))))))))) ∧ ((m ≤ x1) → ((x1 = m) ∧ (((n ≤ n) ∧ (∀ e12 : E, ((0 ≤ e12.den ∧ e12.den < n) → ((((X (e12.den))) = ((X (e12.den)))) ∧ (((Y (e12.den))) = ((Y (e12.den)))))))) ∧ (((m ≤ m) ∧ (∀ e11 : E, ((0 ≤ e11.den ∧ e11.den < m) → (((A (e11.den))) = ((A (e11.den))))))) ∧ ((m ≤ x1) ∧ (∀ e10 : E, ((0 ≤ e10.den ∧ e10.den < m) → ((((X ((A ((e10.den)))))) = ((X ((A (e10.den)))))) ∧ (((Y ((A ((e10.den)))))) = ((Y ((A (e10.den)))))))))))))))))))) (by kernel_rfl) ?_
  intro h1 h2
  refine ⟨?_, ?_, ?_⟩
  · omega
  · refine ⟨0, ?_⟩
    try dsimp only
    refine ⟨?_, ?_, ⟨Int.le_refl _, fun _ => fun _ => ⟨rfl, rfl⟩⟩, ⟨Int.le_refl _, fun _ => fun _ => rfl⟩, ?_⟩
    · omega
    · refine ⟨rfl, rfl, ?_, rfl, rfl, ?_⟩
      · rfl
      · rfl
    · rfl
  · intro j
    intro I1
    refine ⟨?_, ?_⟩
    · intro c15
      refine ⟨?_, ?_, ?_, ?_, ?_, ?_⟩
      · omega
      · omega
      · have hq := hp j (by omega) (by omega); omega
      · have hq := hp j (by omega) (by omega); omega
      · rfl
      · refine ⟨j + 1, ?_⟩
        try dsimp only
        refine ⟨?_, ?_, ?_⟩
        · omega
        · refine ⟨?_, ⟨Int.le_refl _, fun _ => fun _ => ⟨rfl, rfl⟩⟩, ⟨Int.le_refl _, fun _ => fun _ => rfl⟩, ?_, ⟨Int.le_refl _, fun _ => fun _ => ⟨rfl, rfl⟩⟩, ?_⟩
          · refine ⟨rfl, rfl, ?_, rfl, rfl, ?_, ?_⟩
            · refine ⟨?_, ?_⟩
              · rfl
              · intro c16
                omega
            · rfl
            · intro c17
              omega
          · omega
          · intro e6
            intro c18
            refine ⟨?_, ?_⟩
            · simp_all; done
            · simp_all; done
        · omega
    · intro c19
      refine ⟨?_, ⟨Int.le_refl _, fun _ => fun _ => ⟨rfl, rfl⟩⟩, ⟨Int.le_refl _, fun _ => fun _ => rfl⟩, ?_, fun _ => fun _ => ⟨rfl, rfl⟩⟩
      · omega
      · omega
def c_i_chosen_q (X : Int → Int) (Y : Int → Int) (n : Int) (A : Int → Int) (m : Int) : CnH Try.prog := ⟨_, _, _, _, _, _, i_chosen_q X Y n A m⟩
theorem s_isSupport_q (X : Int → Int) (Y : Int → Int) (n : Int) (A : Int → Int) (m : Int) : RunsTo Try.prog 68 [(.sl 0 2 (.lit 0) (.v fun _ => n) 1048576), (.sl 1 1 (.lit 0) (.v fun _ => m) 1048576)] [some ⟨50, 2, false, (.sym (.v fun _ => n) fun e => [(.int .i64 (.v fun _ => (X (e.den))) (-1000) 1000), (.int .i64 (.v fun _ => (Y (e.den))) (-1000) 1000)])⟩, some ⟨3, 1, false, (.sym (.v fun _ => m) fun e => [(.int .i64 (.v fun _ => (A (e.den))) (-9223372036854775808) 9223372036854775807)])⟩] (.bool (.v fun _ => ixB A m n && dtB (fun i => (X ((A (i))))) (fun i => (Y ((A (i))))) m)) [some ⟨50, 2, false, (.sym (.v fun _ => n) fun e => [(.int .i64 (.v fun _ => (X (e.den))) (-1000) 1000), (.int .i64 (.v fun _ => (Y (e.den))) (-1000) 1000)])⟩, some ⟨3, 1, false, (.sym (.v fun _ => m) fun e => [(.int .i64 (.v fun _ => (A (e.den))) (-9223372036854775808) 9223372036854775807)])⟩] := by
  refine RunsTo.go env Try.func68 rfl Try.call68 rfl rfl (fun _ _ => (.loop [] [0, 1] (Int) (fun x1 => ⟨spl 105 0 [(0, (.sl 0 2 (.lit 0) (.v fun _ => n) 1048576)), (1, (.sl 1 1 (.lit 0) (.v fun _ => m) 1048576)), (5, (.int .i64 (.v fun _ => x1) 0 1048576))], [some ⟨50, 2, false, (.sym (.v fun _ => n) fun e => [(.int .i64 (.v fun _ => (X (e.den))) (-1000) 1000), (.int .i64 (.v fun _ => (Y (e.den))) (-1000) 1000)])⟩, some ⟨3, 1, false, (.sym (.v fun _ => m) fun e => [(.int .i64 (.v fun _ => (A (e.den))) (-9223372036854775808) 9223372036854775807)])⟩], 2⟩) (fun x1 => (0 ≤ x1 ∧ x1 ≤ m) ∧ ∀ i, 0 ≤ i → i < x1 → ixC A n i = true) (fun x1 => (m - x1).toNat) fun x1 => (.ite (.need (.need (.call (c_s_inRange ((A (x1))) 0 (n - 1)) (.ite (.out .ret) (.ite (.need (.need (.need (.need (.ite (.out .ret) (.next [0, 1])))))) (.next [0, 1])))))) (.out (.ite .ret (.ite (.need (.need (.need (.need (.need (.need (.need (.need .ret)))))))) (.ite (.need (.need (.need (.need (.need (.need (.need (.need (.need (.need (.need (.need (.call (c_s_cross ((X ((A (0))))) ((Y ((A (0))))) ((X ((A (1))))) ((Y ((A (1))))) ((X ((A (2))))) ((Y ((A (2)))))) (.ite (.call (c_s_dot ((X ((A (0))))) ((Y ((A (0))))) ((X ((A (1))))) ((Y ((A (1))))) ((X ((A (2))))) ((Y ((A (2)))))) (.ite (.call (c_s_dot ((X ((A (1))))) ((Y ((A (1))))) ((X ((A (0))))) ((Y ((A (0))))) ((X ((A (2))))) ((Y ((A (2)))))) (.ite (.call (c_s_dot ((X ((A (2))))) ((Y ((A (2))))) ((X ((A (0))))) ((Y ((A (0))))) ((X ((A (1))))) ((Y ((A (1)))))) .ret) .ret)) .ret)) .ret)))))))))))))) .ret))))))) (G := ((0 ≤ n ∧ n ≤ 1048576) ∧ (0 ≤ m ∧ m ≤ 1048576)) → ((∀ e30 : E, ((0 ≤ e30.den ∧ e30.den < n) → (((-1000) ≤ ((X (e30.den))) ∧ ((X (e30.den))) ≤ 1000) ∧ ((-1000) ≤ ((Y (e30.den))) ∧ ((Y (e30.den))) ≤ 1000)))) ∧ (∀ e29 : E, ((0 ≤ e29.den ∧ e29.den < m) → ((-9223372036854775808) ≤ ((A (e29.den))) ∧ ((A (e29.den))) ≤ 9223372036854775807)))) → ((∃ y2 : Int, (((0 ≤ y2 ∧ y2 ≤ m) ∧ ∀ i, 0 ≤ i → i < y2 → ixC A n i = true) ∧ (((n = n) ∧ ((m = m) ∧ ((0 : Int) = y2))) ∧ (((n ≤ n) ∧ (∀ e4 : E, ((0 ≤ e4.den ∧ e4.den < n) → ((((X (e4.den))) = ((X (e4.den)))) ∧ (((Y (e4.den))) = ((Y (e4.den)))))))) ∧ ((m ≤ m) ∧ (∀ e3 : E, ((0 ≤ e3.den ∧ e3.den < m) → (((A (e3.den))) = ((A (e3.den))))))))))) ∧ (∀ x1 : Int, (((0 ≤ x1 ∧ x1 ≤ m) ∧ ∀ i, 0 ≤ i → i < x1 → ixC A n i = true) → (((x1 < m) → ((((0 ≤ x1) ∧ (x1 < m))) ∧ ((x1 < m) ∧ (((((A (x1))) = ((A (x1)))) ∧ (((0 : Int) = 0) ∧ ((n - 1) = (n - 1)))) ∧ ((((decide (0 ≤ ((A (x1)))) && decide (((A (x1))) ≤ (n - 1))) = false) → (((ixB A m n && dtB (fun i => (X ((A (i))))) (fun i => (Y ((A (i))))) m) = false) ∧ (((n ≤ n) ∧ (∀ e6 : E, ((0 ≤ e6.den ∧ e6.den < n) → ((((X (e6.den))) = ((X (e6.den)))) ∧ (((Y (e6.den))) = ((Y (e6.den)))))))) ∧ ((m ≤ m) ∧ (∀ e5 : E, ((0 ≤ e5.den ∧ e5.den < m) → (((A (e5.den))) = ((A (e5.den)))))))))) ∧ (((decide (0 ≤ ((A (x1)))) && decide (((A (x1))) ≤ (n - 1))) = true) → (((0 < x1) → ((((0 ≤ x1) ∧ (x1 < m))) ∧ ((x1 < m) ∧ ((((0 ≤ (x1 - 1)) ∧ ((x1 - 1) < m))) ∧ (((x1 - 1) < m) ∧ (((((A (x1))) ≤ ((A (x1 - 1)))) → (((ixB A m n && dtB (fun i => (X ((A (i))))) (fun i => (Y ((A (i))))) m) = false) ∧ (((n ≤ n) ∧ (∀ e8 : E, ((0 ≤ e8.den ∧ e8.den < n) → ((((X (e8.den))) = ((X (e8.den)))) ∧ (((Y (e8.den))) = ((Y (e8.den)))))))) ∧ ((m ≤ m) ∧ (∀ e7 : E, ((0 ≤ e7.den ∧ e7.den < m) → (((A (e7.den))) = ((A (e7.den)))))))))) ∧ ((((A (x1 - 1))) < ((A (x1)))) → (∃ y9 : Int, (((0 ≤ y9 ∧ y9 ≤ m) ∧ ∀ i, 0 ≤ i → i < y9 → ixC A n i = true) ∧ ((((n = n) ∧ ((m = m) ∧ (((x1 + 1) = y9) ∧ ((1 ≤ (x1 + 1) ∧ (x1 + 1) ≤ 1048577) → (0 ≤ y9 ∧ y9 ≤ 1048576))))) ∧ (((n ≤ n) ∧ (∀ e11 : E, ((0 ≤ e11.den ∧ e11.den < n) → ((((X (e11.den))) = ((X (e11.den)))) ∧ (((Y (e11.den))) = ((Y (e11.den)))))))) ∧ ((m ≤ m) ∧ (∀ e10 : E, ((0 ≤ e10.den ∧ e10.den < m) → (((A (e10.den))) = ((A (e10.den))))))))) ∧ ((m - y9).toNat < (m - x1).toNat))))))))))) ∧ ((x1 ≤ 0) → (∃ y12 : Int, (((0 ≤ y12 ∧ y12 ≤ m) ∧ ∀ i, 0 ≤ i → i < y12 → ixC A n i = true) ∧ ((((n = n) ∧ ((m = m) ∧ (((x1 + 1) = y12) ∧ ((1 ≤ (x1 + 1) ∧ (x1 + 1) ≤ 1048577) → (0 ≤ y12 ∧ y12 ≤ 1048576))))) ∧ (((n ≤ n) ∧ (∀ e14 : E, ((0 ≤ e14.den ∧ e14.den < n) → ((((X (e14.den))) = ((X (e14.den)))) ∧ (((Y (e14.den))) = ((Y (e14.den)))))))) ∧ ((m ≤ m) ∧ (∀ e13 : E, ((0 ≤ e13.den ∧ e13.den < m) → (((A (e13.den))) = ((A (e13.den))))))))) ∧ ((m - y12).toNat < (m - x1).toNat)))))))))))) ∧ ((m ≤ x1) → (((m = 1) → (((ixB A m n && dtB (fun i => (X ((A (i))))) (fun i => (Y ((A (i))))) m) = true) ∧ (((n ≤ n) ∧ (∀ e16 : E, ((0 ≤ e16.den ∧ e16.den < n) → ((((X (e16.den))) = ((X (e16.den)))) ∧ (((Y (e16.den))) = ((Y (e16.den)))))))) ∧ ((m ≤ m) ∧ (∀ e15 : E, ((0 ≤ e15.den ∧ e15.den < m) → (((A (e15.den))) = ((A (e15.den)))))))))) ∧ ((m ≠ 1) → (((m = 2) → ((0 < m) ∧ ((0 < m) ∧ ((((0 ≤ ((A (0)))) ∧ (((A (0))) < n))) ∧ ((((A (0))) < n) ∧ ((1 < m) ∧ ((1 < m) ∧ ((((0 ≤ ((A (1)))) ∧ (((A (1))) < n))) ∧ ((((A (1))) < n) ∧ (((((((X ((A (0))))) ≠ ((X ((A (1)))))) ∨ (((Y ((A (0))))) ≠ ((Y ((A (1)))))))) ↔ ((ixB A m n && dtB (fun i => (X ((A (i))))) (fun i => (Y ((A (i))))) m) = true)) ∧ (((n ≤ n) ∧ (∀ e18 : E, ((0 ≤ e18.den ∧ e18.den < n) → ((((X (e18.den))) = ((X (e18.den)))) ∧ (((Y (e18.den))) = ((Y (e18.den)))))))) ∧ ((m ≤ m) ∧ (∀ e17 : E, ((0 ≤ e17.den ∧ e17.den < m) → (((A (e17.den))) = ((A (e17.den)))))))))))))))))) ∧ ((m ≠ 2) → (((m = 3) → ((0 < m) ∧ ((0 < m) ∧ ((((0 ≤ ((A (0)))) ∧ (((A (0))) < n))) ∧ ((((A (0))) < n) ∧ ((1 < m) ∧ ((1 < m) ∧ ((((0 ≤ ((A (1)))) ∧ (((A (1))) < n))) ∧ ((((A (1))) < n) ∧ ((2 < m) ∧ ((2 < m) ∧ ((((0 ≤ ((A (2)))) ∧ (((A (2))) < n))) ∧ ((((A (2))) < n) ∧ ((((((X ((A (0))))) = ((X ((A (0)))))) ∧ (((Y ((A (0))))) = ((Y ((A (0))))))) ∧ (((((X ((A (1))))) = ((X ((A (1)))))) ∧ (((Y ((A (1))))) = ((Y ((A (1))))))) ∧ ((((X ((A (2))))) = ((X ((A (2)))))) ∧ (((Y ((A (2))))) = ((Y ((A (2))))))))) ∧ ((((trn ((X ((A (0))))) ((Y ((A (0))))) ((X ((A (1))))) ((Y ((A (1))))) ((X ((A (2))))) ((Y ((A (2)))))) ≠ 0) → ((((((X ((A (0))))) = ((X ((A (0)))))) ∧ (((Y ((A (0))))) = ((Y ((A (0))))))) ∧ (((((X ((A (1))))) = ((X ((A (1)))))) ∧ (((Y ((A (1))))) = ((Y ((A (1))))))) ∧ ((((X ((A (2))))) = ((X ((A (2)))))) ∧ (((Y ((A (2))))) = ((Y ((A (2))))))))) ∧ (((0 < (dt3 ((X ((A (0))))) ((Y ((A (0))))) ((X ((A (1))))) ((Y ((A (1))))) ((X ((A (2))))) ((Y ((A (2))))))) → ((((((X ((A (1))))) = ((X ((A (1)))))) ∧ (((Y ((A (1))))) = ((Y ((A (1))))))) ∧ (((((X ((A (0))))) = ((X ((A (0)))))) ∧ (((Y ((A (0))))) = ((Y ((A (0))))))) ∧ ((((X ((A (2))))) = ((X ((A (2)))))) ∧ (((Y ((A (2))))) = ((Y ((A (2))))))))) ∧ (((0 < (dt3 ((X ((A (1))))) ((Y ((A (1))))) ((X ((A (0))))) ((Y ((A (0))))) ((X ((A (2))))) ((Y ((A (2))))))) → ((((((X ((A (2))))) = ((X ((A (2)))))) ∧ (((Y ((A (2))))) = ((Y ((A (2))))))) ∧ (((((X ((A (0))))) = ((X ((A (0)))))) ∧ (((Y ((A (0))))) = ((Y ((A (0))))))) ∧ ((((X ((A (1))))) = ((X ((A (1)))))) ∧ (((Y ((A (1))))) = ((Y ((A (1))))))))) ∧ (((0 < (dt3 ((X ((A (2))))) ((Y ((A (2))))) ((X ((A (0))))) ((Y ((A (0))))) ((X ((A (1))))) ((Y ((A (1))))))) ↔ ((ixB A m n && dtB (fun i => (X ((A (i))))) (fun i => (Y ((A (i))))) m) = true)) ∧ (((n ≤ n) ∧ (∀ e20 : E, ((0 ≤ e20.den ∧ e20.den < n) → ((((X (e20.den))) = ((X (e20.den)))) ∧ (((Y (e20.den))) = ((Y (e20.den)))))))) ∧ ((m ≤ m) ∧ (∀ e19 : E, ((0 ≤ e19.den ∧ e19.den < m) → (((A (e19.den))) = ((A (e19.den))))))))))) ∧ (((dt3 ((X ((A (1))))) ((Y ((A (1))))) ((X ((A (0))))) ((Y ((A (0))))) ((X ((A (2))))) ((Y ((A (2)))))) ≤ 0) → (((ixB A m n && dtB (fun i => (X ((A (i))))) (fun i => (Y ((A (i))))) m) = false) ∧ (((n ≤ n) ∧ (∀ e22 : E, ((0 ≤ e22.den ∧ e22.den < n) → ((((X (e22.den))) = ((X (e22.den)))) ∧ (((Y (e22.den))) = ((Y (e22.den)))))))) ∧ ((m ≤ m) ∧ (∀ e21 : E, ((0 ≤ e21.den ∧ e21.den < m) → (((A (e21.den))) = ((A (e21.den))))))))))))) ∧ (((dt3 ((X ((A (0))))) ((Y ((A (0))))) ((X ((A (1))))) ((Y ((A (1))))) ((X ((A (2))))) ((Y ((A (2)))))) ≤ 0) → (((ixB A m n && dtB (fun i => (X ((A (i))))) (fun i => (Y ((A (i))))) m) = false) ∧ (((n ≤ n) ∧ (∀ e24 : E, ((0 ≤ e24.den ∧ e24.den < n) → ((((X (e24.den))) = ((X (e24.den)))) ∧ (((Y (e24.den))) = ((Y (e24.den)))))))) ∧ ((m ≤ m) ∧ (∀ e23 : E, ((0 ≤ e23.den ∧ e23.den < m) → (((A (e23.den))) = ((A (e23.den))))))))))))) ∧ (((trn ((X ((A (0))))) ((Y ((A (0))))) ((X ((A (1))))) ((Y ((A (1))))) ((X ((A (2))))) ((Y ((A (2)))))) = 0) → (((ixB A m n && dtB (fun i => (X ((A (i))))) (fun i => (Y ((A (i))))) m) = false) ∧ (((n ≤ n) ∧ (∀ e26 : E, ((0 ≤ e26.den ∧ e26.den < n) → ((((X (e26.den))) = ((X (e26.den)))) ∧ (((Y (e26.den))) = ((Y (e26.den)))))))) ∧ ((m ≤ m) ∧ (∀ e25 : E, ((0 ≤ e25.den ∧ e25.den < m) → (((A (e25.den))) = ((A (e25.den))))))))))))))))))))))))) ∧ ((m ≠ 3) → (((ixB A m n && dtB (fun i => (X ((A (i))))) (fun i => (Y ((A (i))))) m) = false) ∧ (((n ≤ n) ∧ (∀ e28 : E, ((0 ≤ e28.den ∧ e28.den < n) → ((((X (e28.den))) = ((X (e28.den)))) ∧ (((Y (e28.den))) = ((Y (e28.den)))))))) ∧ ((m ≤ m) ∧ (∀ e27 : E, ((0 ≤ e27.den ∧ e27.den < m) → (((A (e27.den))) = ((A (e27.den))))))))))))))))))))) (by kernel_rfl) ?_
  intro h1 h2
  refine ⟨?_, ?_⟩
  · refine ⟨0, ?_⟩
    try dsimp only
    refine ⟨?_, ?_, ⟨Int.le_refl _, fun _ => fun _ => ⟨rfl, rfl⟩⟩, Int.le_refl _, fun _ => fun _ => rfl⟩
    · (try simp only [Bool.and_eq_true, Bool.not_eq_true', decide_eq_true_eq, Bool.and_eq_false_iff, decide_eq_false_iff_not] at *); refine ⟨by omega, fun i a b => ?_⟩; (exfalso; omega)
    · refine ⟨rfl, rfl, ?_⟩
      rfl
  · intro j
    intro I1
    refine ⟨?_, ?_⟩
    · intro c31
      refine ⟨?_, ?_, ⟨rfl, ⟨rfl, rfl⟩⟩, ?_, ?_⟩
      · omega
      · omega
      · intro c32
        refine ⟨?_, ⟨Int.le_refl _, fun _ => fun _ => ⟨rfl, rfl⟩⟩, Int.le_refl _, fun _ => fun _ => rfl⟩
        (try simp only [Bool.and_eq_true, Bool.not_eq_true', decide_eq_true_eq, Bool.and_eq_false_iff, decide_eq_false_iff_not] at *); have hx := ixC_prv I1.1.1 I1.2; have hf : ixC A n j = false := (by rw [← Bool.not_eq_true]; first | (rw [hx.2.2.1]; omega) | (rw [ixC_iff]; omega) | fail); (left; unfold ixB; rw [allB_false I1.1.1 (by omega) hf])
      · intro c33
        refine ⟨?_, ?_⟩
        · intro c34
          refine ⟨?_, ?_, ?_, ?_, ?_, ?_⟩
          · omega
          · omega
          · omega
          · omega
          · intro c35
            refine ⟨?_, ⟨Int.le_refl _, fun _ => fun _ => ⟨rfl, rfl⟩⟩, Int.le_refl _, fun _ => fun _ => rfl⟩
            (try simp only [Bool.and_eq_true, Bool.not_eq_true', decide_eq_true_eq, Bool.and_eq_false_iff, decide_eq_false_iff_not] at *); have hx := ixC_prv I1.1.1 I1.2; have hf : ixC A n j = false := (by rw [← Bool.not_eq_true]; first | (rw [hx.2.2.1]; omega) | (rw [ixC_iff]; omega) | fail); (left; unfold ixB; rw [allB_false I1.1.1 (by omega) hf])
          · intro c36
            refine ⟨j + 1, ?_⟩
            try dsimp only
            refine ⟨?_, ?_, ?_⟩
            · (try simp only [Bool.and_eq_true, Bool.not_eq_true', decide_eq_true_eq, Bool.and_eq_false_iff, decide_eq_false_iff_not] at *); refine ⟨by omega, fun i a b => ?_⟩; by_cases e : i = j; (subst e; have hx := ixC_prv I1.1.1 I1.2; first | (rw [hx.2.2.1]; omega) | (rw [ixC_iff]; omega) | fail); exact I1.2 i a (by omega)
            · refine ⟨?_, ⟨Int.le_refl _, fun _ => fun _ => ⟨rfl, rfl⟩⟩, Int.le_refl _, fun _ => fun _ => rfl⟩
              refine ⟨rfl, rfl, ?_, ?_⟩
              · rfl
              · intro c37
                omega
            · omega
        · intro c38
          refine ⟨j + 1, ?_⟩
          try dsimp only
          refine ⟨?_, ?_, ?_⟩
          · (try simp only [Bool.and_eq_true, Bool.not_eq_true', decide_eq_true_eq, Bool.and_eq_false_iff, decide_eq_false_iff_not] at *); refine ⟨by omega, fun i a b => ?_⟩; by_cases e : i = j; (subst e; have hx := ixC_prv I1.1.1 I1.2; first | (rw [hx.2.2.1]; omega) | (rw [ixC_iff]; omega) | fail); exact I1.2 i a (by omega)
          · refine ⟨?_, ⟨Int.le_refl _, fun _ => fun _ => ⟨rfl, rfl⟩⟩, Int.le_refl _, fun _ => fun _ => rfl⟩
            refine ⟨rfl, rfl, ?_, ?_⟩
            · rfl
            · intro c39
              omega
          · omega
    · intro c40
      refine ⟨?_, ?_⟩
      · intro c41
        refine ⟨?_, ⟨Int.le_refl _, fun _ => fun _ => ⟨rfl, rfl⟩⟩, Int.le_refl _, fun _ => fun _ => rfl⟩
        (try simp only [Bool.and_eq_true, Bool.not_eq_true', decide_eq_true_eq, Bool.and_eq_false_iff, decide_eq_false_iff_not] at *); have hb : ixB A m n = true := (allB_iff.2 fun i a b => I1.2 i a (by omega)); simp only [hb, true_and, Bool.true_eq_false, false_or]; unfold dtB; (rw [if_pos (by omega)]; done)
      · intro c42
        refine ⟨?_, ?_⟩
        · intro c43
          refine ⟨?_, ?_, ?_, ?_, ?_, ?_, ?_, ?_, ?_, ⟨Int.le_refl _, fun _ => fun _ => ⟨rfl, rfl⟩⟩, Int.le_refl _, fun _ => fun _ => rfl⟩
          · omega
          · omega
          · (try simp only [Bool.and_eq_true, Bool.not_eq_true', decide_eq_true_eq, Bool.and_eq_false_iff, decide_eq_false_iff_not] at *); have h0 := ixC_iff.1 (I1.2 0 (by omega) (by omega)); omega
          · (try simp only [Bool.and_eq_true, Bool.not_eq_true', decide_eq_true_eq, Bool.and_eq_false_iff, decide_eq_false_iff_not] at *); have h0 := ixC_iff.1 (I1.2 0 (by omega) (by omega)); omega
          · omega
          · omega
          · (try simp only [Bool.and_eq_true, Bool.not_eq_true', decide_eq_true_eq, Bool.and_eq_false_iff, decide_eq_false_iff_not] at *); have h0 := ixC_iff.1 (I1.2 0 (by omega) (by omega)); have h1 := ixC_iff.1 (I1.2 1 (by omega) (by omega)); omega
          · (try simp only [Bool.and_eq_true, Bool.not_eq_true', decide_eq_true_eq, Bool.and_eq_false_iff, decide_eq_false_iff_not] at *); have h0 := ixC_iff.1 (I1.2 0 (by omega) (by omega)); have h1 := ixC_iff.1 (I1.2 1 (by omega) (by omega)); omega
          · (try simp only [Bool.and_eq_true, Bool.not_eq_true', decide_eq_true_eq, Bool.and_eq_false_iff, decide_eq_false_iff_not] at *); have hb : ixB A m n = true := (allB_iff.2 fun i a b => I1.2 i a (by omega)); simp only [hb, true_and, Bool.true_eq_false, false_or]; unfold dtB; (rw [if_neg (by omega), if_pos (by omega)]; simp only [Bool.and_eq_true, Bool.not_eq_true', decide_eq_true_eq, Bool.and_eq_false_iff, decide_eq_false_iff_not]; done)
        · intro c44
          refine ⟨?_, ?_⟩
          · intro c45
            refine ⟨?_, ?_, ?_, ?_, ?_, ?_, ?_, ?_, ?_, ?_, ?_, ?_, ⟨⟨rfl, rfl⟩, ⟨⟨rfl, rfl⟩, ⟨rfl, rfl⟩⟩⟩, ?_, ?_⟩
            · omega
            · omega
            · (try simp only [Bool.and_eq_true, Bool.not_eq_true', decide_eq_true_eq, Bool.and_eq_false_iff, decide_eq_false_iff_not] at *); have h0 := ixC_iff.1 (I1.2 0 (by omega) (by omega)); omega
            · (try simp only [Bool.and_eq_true, Bool.not_eq_true', decide_eq_true_eq, Bool.and_eq_false_iff, decide_eq_false_iff_not] at *); have h0 := ixC_iff.1 (I1.2 0 (by omega) (by omega)); omega
            · omega
            · omega
            · (try simp only [Bool.and_eq_true, Bool.not_eq_true', decide_eq_true_eq, Bool.and_eq_false_iff, decide_eq_false_iff_not] at *); have h0 := ixC_iff.1 (I1.2 0 (by omega) (by omega)); have h1 := ixC_iff.1 (I1.2 1 (by omega) (by omega)); omega
            · (try simp only [Bool.and_eq_true, Bool.not_eq_true', decide_eq_true_eq, Bool.and_eq_false_iff, decide_eq_false_iff_not] at *); have h0 := ixC_iff.1 (I1.2 0 (by omega) (by omega)); have h1 := ixC_iff.1 (I1.2 1 (by omega) (by omega)); omega
            · omega
            · omega
            · (try simp only [Bool.and_eq_true, Bool.not_eq_true', decide_eq_true_eq, Bool.and_eq_false_iff, decide_eq_false_iff_not] at *); have h0 := ixC_iff.1 (I1.2 0 (by omega) (by omega)); have h1 := ixC_iff.1 (I1.2 1 (by omega) (by omega)); (have h2 := ixC_iff.1 (I1.2 2 (by omega) (by omega)); omega)
            · (try simp only [Bool.and_eq_true, Bool.not_eq_true', decide_eq_true_eq, Bool.and_eq_false_iff, decide_eq_false_iff_not] at *); have h0 := ixC_iff.1 (I1.2 0 (by omega) (by omega)); have h1 := ixC_iff.1 (I1.2 1 (by omega) (by omega)); (have h2 := ixC_iff.1 (I1.2 2 (by omega) (by omega)); omega)
            · intro c46
              refine ⟨⟨⟨rfl, rfl⟩, ⟨⟨rfl, rfl⟩, ⟨rfl, rfl⟩⟩⟩, ?_, ?_⟩
              · intro c47
                refine ⟨⟨⟨rfl, rfl⟩, ⟨⟨rfl, rfl⟩, ⟨rfl, rfl⟩⟩⟩, ?_, ?_⟩
                · intro c48
                  refine ⟨⟨⟨rfl, rfl⟩, ⟨⟨rfl, rfl⟩, ⟨rfl, rfl⟩⟩⟩, ?_, ⟨Int.le_refl _, fun _ => fun _ => ⟨rfl, rfl⟩⟩, Int.le_refl _, fun _ => fun _ => rfl⟩
                  (try simp only [Bool.and_eq_true, Bool.not_eq_true', decide_eq_true_eq, Bool.and_eq_false_iff, decide_eq_false_iff_not] at *); have hb : ixB A m n = true := (allB_iff.2 fun i a b => I1.2 i a (by omega)); simp only [hb, true_and, Bool.true_eq_false, false_or]; unfold dtB; rw [if_neg (by omega), if_neg (by omega), if_pos (by omega)]; simp only [acB, Bool.and_eq_true, Bool.not_eq_true', decide_eq_true_eq, Bool.and_eq_false_iff, decide_eq_false_iff_not, dt3_comm (X (A 1)) (Y (A 1)) (X (A 0)) (Y (A 0))] at *; omega
                · intro c49
                  refine ⟨?_, ⟨Int.le_refl _, fun _ => fun _ => ⟨rfl, rfl⟩⟩, Int.le_refl _, fun _ => fun _ => rfl⟩
                  (try simp only [Bool.and_eq_true, Bool.not_eq_true', decide_eq_true_eq, Bool.and_eq_false_iff, decide_eq_false_iff_not] at *); have hb : ixB A m n = true := (allB_iff.2 fun i a b => I1.2 i a (by omega)); simp only [hb, true_and, Bool.true_eq_false, false_or]; unfold dtB; rw [if_neg (by omega), if_neg (by omega), if_pos (by omega)]; simp only [acB, Bool.and_eq_true, Bool.not_eq_true', decide_eq_true_eq, Bool.and_eq_false_iff, decide_eq_false_iff_not, dt3_comm (X (A 1)) (Y (A 1)) (X (A 0)) (Y (A 0))] at *; omega
              · intro c50
                refine ⟨?_, ⟨Int.le_refl _, fun _ => fun _ => ⟨rfl, rfl⟩⟩, Int.le_refl _, fun _ => fun _ => rfl⟩
                (try simp only [Bool.and_eq_true, Bool.not_eq_true', decide_eq_true_eq, Bool.and_eq_false_iff, decide_eq_false_iff_not] at *); have hb : ixB A m n = true := (allB_iff.2 fun i a b => I1.2 i a (by omega)); simp only [hb, true_and, Bool.true_eq_false, false_or]; unfold dtB; rw [if_neg (by omega), if_neg (by omega), if_pos (by omega)]; simp only [acB, Bool.and_eq_true, Bool.not_eq_true', decide_eq_true_eq, Bool.and_eq_false_iff, decide_eq_false_iff_not, dt3_comm (X (A 1)) (Y (A 1)) (X (A 0)) (Y (A 0))] at *; omega
            · intro c51
              refine ⟨?_, ⟨Int.le_refl _, fun _ => fun _ => ⟨rfl, rfl⟩⟩, Int.le_refl _, fun _ => fun _ => rfl⟩
              (try simp only [Bool.and_eq_true, Bool.not_eq_true', decide_eq_true_eq, Bool.and_eq_false_iff, decide_eq_false_iff_not] at *); have hb : ixB A m n = true := (allB_iff.2 fun i a b => I1.2 i a (by omega)); simp only [hb, true_and, Bool.true_eq_false, false_or]; unfold dtB; (rw [if_neg (by omega), if_neg (by omega), if_pos (by omega)]; simp_all only [acB, Bool.and_eq_true, Bool.not_eq_true', decide_eq_true_eq, Bool.and_eq_false_iff, decide_eq_false_iff_not, decide_true, Bool.not_true, Bool.false_and]; done)
          · intro c52
            refine ⟨?_, ⟨Int.le_refl _, fun _ => fun _ => ⟨rfl, rfl⟩⟩, Int.le_refl _, fun _ => fun _ => rfl⟩
            (try simp only [Bool.and_eq_true, Bool.not_eq_true', decide_eq_true_eq, Bool.and_eq_false_iff, decide_eq_false_iff_not] at *); have hb : ixB A m n = true := (allB_iff.2 fun i a b => I1.2 i a (by omega)); simp only [hb, true_and, Bool.true_eq_false, false_or]; unfold dtB; (rw [if_neg (by omega), if_neg (by omega), if_neg (by omega)]; done)
def c_s_isSupport_q (X : Int → Int) (Y : Int → Int) (n : Int) (A : Int → Int) (m : Int) : Cn Try.prog := ⟨_, _, _, _, _, s_isSupport_q X Y n A m⟩
theorem IndexFunc_en_q (X : Int → Int) (Y : Int → Int) (m : Int) (U : Int → Int) (V : Int → Int) (n : Int) (hp : m = 1 ∨ m = 2 ∨ m = 3) : RunsTo Try.prog 137 [(.sl 0 2 (.lit 0) (.v fun _ => n) 1048576), (.fn 118 [(.ptr 1 1 (.lit 0) 0)])] [some ⟨50, 2, false, (.sym (.v fun _ => n) fun e => [(.int .i64 (.v fun _ => (U (e.den))) (-1000) 1000), (.int .i64 (.v fun _ => (V (e.den))) (-1000) 1000)])⟩, some ⟨27, 1, true, (.lit [[(.sl 2 2 (.lit 0) (.v fun _ => m) 1048576)]])⟩, some ⟨50, 2, true, (.sym (.v fun _ => m) fun e => [(.int .i64 (.v fun _ => (X (e.den))) (-1000) 1000), (.int .i64 (.v fun _ => (Y (e.den))) (-1000) 1000)])⟩] (.int .i64 (.v fun _ => fidx (fun i => !(enB X Y m (U (i)) (V (i)))) n) (-1) 1048576) [some ⟨50, 2, false, (.sym (.v fun _ => n) fun e => [(.int .i64 (.v fun _ => (U (e.den))) (-1000) 1000), (.int .i64 (.v fun _ => (V (e.den))) (-1000) 1000)])⟩, some ⟨27, 1, true, (.lit [[(.sl 2 2 (.lit 0) (.v fun _ => m) 1048576)]])⟩, some ⟨50, 2, true, (.sym (.v fun _ => m) fun e => [(.int .i64 (.v fun _ => (X (e.den))) (-1000) 1000), (.int .i64 (.v fun _ => (Y (e.den))) (-1000) 1000)])⟩] := by
  refine RunsTo.go env Try.func137 rfl Try.call137 rfl rfl (fun _ _ => (.loop [] [0, 1, 2] (Int) (fun x1 => ⟨spl 19 0 [(0, (.sl 0 2 (.lit 0) (.v fun _ => n) 1048576)), (1, (.fn 118 [(.ptr 1 1 (.lit 0) 0)])), (7, (.int .i64 (.v fun _ => n) 0 1048576)), (8, (.int .i64 (.v fun _ => x1) 0 1048576))], [some ⟨50, 2, false, (.sym (.v fun _ => n) fun e => [(.int .i64 (.v fun _ => (U (e.den))) (-1000) 1000), (.int .i64 (.v fun _ => (V (e.den))) (-1000) 1000)])⟩, some ⟨27, 1, true, (.lit [[(.sl 2 2 (.lit 0) (.v fun _ => m) 1048576)]])⟩, some ⟨50, 2, true, (.sym (.v fun _ => m) fun e => [(.int .i64 (.v fun _ => (X (e.den))) (-1000) 1000), (.int .i64 (.v fun _ => (Y (e.den))) (-1000) 1000)])⟩], 3⟩) (fun x1 => (0 ≤ x1 ∧ x1 ≤ n) ∧ ∀ i, 0 ≤ i → i < x1 → (!(enB X Y m (U (i)) (V (i)))) = false) (fun x1 => (n - x1).toNat) fun x1 => (.ite (.need (.need (.callH (c_enclosing1 X Y m ((U (x1))) ((V (x1)))) (.ite (.out .ret) (.next [0, 1, 2]))))) (.out .ret)))) (G := (0 ≤ n ∧ n ≤ 1048576) → ((∀ e14 : E, ((0 ≤ e14.den ∧ e14.den < n) → (((-1000) ≤ ((U (e14.den))) ∧ ((U (e14.den))) ≤ 1000) ∧ ((-1000) ≤ ((V (e14.den))) ∧ ((V (e14.den))) ≤ 1000)))) ∧ ((0 ≤ m ∧ m ≤ 1048576) ∧ (∀ e13 : E, ((0 ≤ e13.den ∧ e13.den < m) → (((-1000) ≤ ((X (e13.den))) ∧ ((X (e13.den))) ≤ 1000) ∧ ((-1000) ≤ ((Y (e13.den))) ∧ ((Y (e13.den))) ≤ 1000)))))) → ((∃ y2 : Int, (((0 ≤ y2 ∧ y2 ≤ n) ∧ ∀ i, 0 ≤ i → i < y2 → (!(enB X Y m (U (i)) (V (i)))) = false) ∧ (((n = n) ∧ ((n = n) ∧ ((0 : Int) = y2))) ∧ (((n ≤ n) ∧ (∀ e4 : E, ((0 ≤ e4.den ∧ e4.den < n) → ((((U (e4.den))) = ((U (e4.den)))) ∧ (((V (e4.den))) = ((V (e4.den)))))))) ∧ ((m = m) ∧ ((m ≤ m) ∧ (∀ e3 : E, ((0 ≤ e3.den ∧ e3.den < m) → ((((X (e3.den))) = ((X (e3.den)))) ∧ (((Y (e3.den))) = ((Y (e3.den))))))))))))) ∧ (∀ x1 : Int, (((0 ≤ x1 ∧ x1 ≤ n) ∧ ∀ i, 0 ≤ i → i < x1 → (!(enB X Y m (U (i)) (V (i)))) = false) → (((x1 < n) → ((((0 ≤ x1) ∧ (x1 < n))) ∧ ((x1 < n) ∧ ((m = 1 ∨ m = 2 ∨ m = 3) ∧ (((((U (x1))) = ((U (x1)))) ∧ (((V (x1))) = ((V (x1))))) ∧ (((m = m) ∧ ((m ≤ m) ∧ (∀ e5 : E, ((0 ≤ e5.den ∧ e5.den < m) → ((((X (e5.den))) = ((X (e5.den)))) ∧ (((Y (e5.den))) = ((Y (e5.den))))))))) ∧ ((((!(enB X Y m ((U (x1))) ((V (x1))))) = true) → ((x1 = (fidx (fun i => !(enB X Y m (U (i)) (V (i)))) n)) ∧ (((n ≤ n) ∧ (∀ e7 : E, ((0 ≤ e7.den ∧ e7.den < n) → ((((U (e7.den))) = ((U (e7.den)))) ∧ (((V (e7.den))) = ((V (e7.den)))))))) ∧ ((m = m) ∧ ((m ≤ m) ∧ (∀ e6 : E, ((0 ≤ e6.den ∧ e6.den < m) → ((((X (e6.den))) = ((X (e6.den)))) ∧ (((Y (e6.den))) = ((Y (e6.den)))))))))))) ∧ (((!(enB X Y m ((U (x1))) ((V (x1))))) = false) → (∃ y8 : Int, (((0 ≤ y8 ∧ y8 ≤ n) ∧ ∀ i, 0 ≤ i → i < y8 → (!(enB X Y m (U (i)) (V (i)))) = false) ∧ ((((n = n) ∧ ((n = n) ∧ (((x1 + 1) = y8) ∧ ((1 ≤ (x1 + 1) ∧ (x1 + 1) ≤ 1048577) → (0 ≤ y8 ∧ y8 ≤ 1048576))))) ∧ (((n ≤ n) ∧ (∀ e10 : E, ((0 ≤ e10.den ∧ e10.den < n) → ((((U (e10.den))) = ((U (e10.den)))) ∧ (((V (e10.den))) = ((V (e10.den)))))))) ∧ ((m = m) ∧ ((m ≤ m) ∧ (∀ e9 : E, ((0 ≤ e9.den ∧ e9.den < m) → ((((X (e9.den))) = ((X (e9.den)))) ∧ (((Y (e9.den))) = ((Y (e9.den))))))))))) ∧ ((n - y8).toNat < (n - x1).toNat)))))))))))) ∧ ((n ≤ x1) → ((((-1) : Int) = (fidx (fun i => !(enB X Y m (U (i)) (V (i)))) n)) ∧ (((n ≤ n) ∧ (∀ e12 : E, ((0 ≤ e12.den ∧ e12.den < n) → ((((U (e12.den))) = ((U (e12.den)))) ∧ (((V (e12.den))) = ((V (e12.den)))))))) ∧ ((m = m) ∧ ((m ≤ m) ∧ (∀ e11 : E, ((0 ≤ e11.den ∧ e11.den < m) → ((((X (e11.den))) = ((X (e11.den)))) ∧ (((Y (e11.den))) = ((Y (e11.den))))))))))))))))) (by kernel_rfl) ?_
  intro h1 h2
  have hb := fidx_bd (fun i => !(enB X Y m (U (i)) (V (i)))) h1.1
  refine ⟨?_, ?_⟩
  · refine ⟨0, ?_⟩
    try dsimp only
    refine ⟨?_, ?_, ⟨Int.le_refl _, fun _ => fun _ => ⟨rfl, rfl⟩⟩, rfl, Int.le_refl _, fun _ => fun _ => ⟨rfl, rfl⟩⟩
    · exact ⟨by omega, fun i a b => by omega⟩
    · refine ⟨rfl, rfl, ?_⟩
      rfl
  · intro j
    intro I1
    refine ⟨?_, ?_⟩
    · intro c15
      refine ⟨?_, ?_, ?_, ⟨rfl, rfl⟩, ⟨rfl, ⟨Int.le_refl _, fun _ => fun _ => ⟨rfl, rfl⟩⟩⟩, ?_, ?_⟩
      · omega
      · omega
      · omega
      · intro c16
        refine ⟨?_, ⟨Int.le_refl _, fun _ => fun _ => ⟨rfl, rfl⟩⟩, rfl, Int.le_refl _, fun _ => fun _ => ⟨rfl, rfl⟩⟩
        exact (fidx_found I1.1.1 (by omega) (by assumption) I1.2).symm
      · intro c17
        refine ⟨j + 1, ?_⟩
        try dsimp only
        refine ⟨?_, ?_, ?_⟩
        · refine ⟨by omega, fun i a b => ?_⟩; by_cases e : i = j; (subst e; assumption); exact I1.2 i a (by omega)
        · refine ⟨?_, ⟨Int.le_refl _, fun _ => fun _ => ⟨rfl, rfl⟩⟩, rfl, Int.le_refl _, fun _ => fun _ => ⟨rfl, rfl⟩⟩
          refine ⟨rfl, rfl, ?_, ?_⟩
          · rfl
          · intro c18
            omega
        · omega
    · intro c19
      refine ⟨?_, ⟨Int.le_refl _, fun _ => fun _ => ⟨rfl, rfl⟩⟩, rfl, Int.le_refl _, fun _ => fun _ => ⟨rfl, rfl⟩⟩
      exact (fidx_none fun i a b => I1.2 i a (by omega)).symm
def c_IndexFunc_en_q (X : Int → Int) (Y : Int → Int) (m : Int) (U : Int → Int) (V : Int → Int) (n : Int) : CnH Try.prog := ⟨_, _, _, _, _, _, IndexFunc_en_q X Y m U V n⟩
theorem ContainsFunc_en_q (X : Int → Int) (Y : Int → Int) (m : Int) (U : Int → Int) (V : Int → Int) (n : Int) (hp : m = 1 ∨ m = 2 ∨ m = 3) : RunsTo Try.prog 117 [(.sl 0 2 (.lit 0) (.v fun _ => n) 1048576), (.fn 118 [(.ptr 1 1 (.lit 0) 0)])] [some ⟨50, 2, false, (.sym (.v fun _ => n) fun e => [(.int .i64 (.v fun _ => (U (e.den))) (-1000) 1000), (.int .i64 (.v fun _ => (V (e.den))) (-1000) 1000)])⟩, some ⟨27, 1, true, (.lit [[(.sl 2 2 (.lit 0) (.v fun _ => m) 1048576)]])⟩, some ⟨50, 2, true, (.sym (.v fun _ => m) fun e => [(.int .i64 (.v fun _ => (X (e.den))) (-1000) 1000), (.int .i64 (.v fun _ => (Y (e.den))) (-1000) 1000)])⟩] (.bool (.v fun _ => decide (0 ≤ fidx (fun i => !(enB X Y m (U (i)) (V (i)))) n))) [some ⟨50, 2, false, (.sym (.v fun _ => n) fun e => [(.int .i64 (.v fun _ => (U (e.den))) (-1000) 1000), (.int .i64 (.v fun _ => (V (e.den))) (-1000) 1000)])⟩, some ⟨27, 1, true, (.lit [[(.sl 2 2 (.lit 0) (.v fun _ => m) 1048576)]])⟩, some ⟨50, 2, true, (.sym (.v fun _ => m) fun e => [(.int .i64 (.v fun _ => (X (e.den))) (-1000) 1000), (.int .i64 (.v fun _ => (Y (e.den))) (-1000) 1000)])⟩] := by
  refine RunsTo.go env Try.func117 rfl Try.call117 rfl rfl (fun _ _ => (.callH (c_IndexFunc_en_q X Y m U V n) .ret)) (G := (0 ≤ n ∧ n ≤ 1048576) → ((∀ e6 : E, ((0 ≤ e6.den ∧ e6.den < n) → (((-1000) ≤ ((U (e6.den))) ∧ ((U (e6.den))) ≤ 1000) ∧ ((-1000) ≤ ((V (e6.den))) ∧ ((V (e6.den))) ≤ 1000)))) ∧ ((0 ≤ m ∧ m ≤ 1048576) ∧ (∀ e5 : E, ((0 ≤ e5.den ∧ e5.den < m) → (((-1000) ≤ ((X (e5.den))) ∧ ((X (e5.den))) ≤ 1000) ∧ ((-1000) ≤ ((Y (e5.den))) ∧ ((Y (e5.den))) ≤ 1000)))))) → ((m = 1 ∨ m = 2 ∨ m = 3) ∧ ((n = n) ∧ ((((n ≤ n) ∧ (∀ e2 : E, ((0 ≤ e2.den ∧ e2.den < n) → ((((U (e2.den))) = ((U (e2.den)))) ∧ (((V (e2.den))) = ((V (e2.den)))))))) ∧ ((m = m) ∧ ((m ≤ m) ∧ (∀ e1 : E, ((0 ≤ e1.den ∧ e1.den < m) → ((((X (e1.den))) = ((X (e1.den)))) ∧ (((Y (e1.den))) = ((Y (e1.den)))))))))) ∧ (((0 ≤ (fidx (fun i => !(enB X Y m ((U (i))) ((V (i))))) n)) ↔ ((decide (0 ≤ fidx (fun i => !(enB X Y m (U (i)) (V (i)))) n)) = true)) ∧ (((n ≤ n) ∧ (∀ e4 : E, ((0 ≤ e4.den ∧ e4.den < n) → ((((U (e4.den))) = ((U (e4.den)))) ∧ (((V (e4.den))) = ((V (e4.den)))))))) ∧ ((m = m) ∧ ((m ≤ m) ∧ (∀ e3 : E, ((0 ≤ e3.den ∧ e3.den < m) → ((((X (e3.den))) = ((X (e3.den)))) ∧ (((Y (e3.den))) = ((Y (e3.den))))))))))))))) (by kernel_rfl) ?_
  intro h1 h2
  refine ⟨?_, rfl, ⟨⟨Int.le_refl _, fun _ => fun _ => ⟨rfl, rfl⟩⟩, ⟨rfl, ⟨Int.le_refl _, fun _ => fun _ => ⟨rfl, rfl⟩⟩⟩⟩, ?_, ⟨Int.le_refl _, fun _ => fun _ => ⟨rfl, rfl⟩⟩, rfl, Int.le_refl _, fun _ => fun _ => ⟨rfl, rfl⟩⟩
  · exact hp
  · simp; done
def c_ContainsFunc_en_q (X : Int → Int) (Y : Int → Int) (m : Int) (U : Int → Int) (V : Int → Int) (n : Int) : CnH Try.prog := ⟨_, _, _, _, _, _, ContainsFunc_en_q X Y m U V n⟩
theorem i_enclosing_q (X : Int → Int) (Y : Int → Int) (n : Int) (A : Int → Int) (m : Int) (hp : ∀ i, 0 ≤ i → i < m → 0 ≤ A i ∧ A i < n) : RunsTo Try.prog 72 [(.sl 0 2 (.lit 0) (.v fun _ => n) 1048576), (.sl 1 1 (.lit 0) (.v fun _ => m) 1048576)] [some ⟨50, 2, false, (.sym (.v fun _ => n) fun e => [(.int .i64 (.v fun _ => (X (e.den))) (-1000) 1000), (.int .i64 (.v fun _ => (Y (e.den))) (-1000) 1000)])⟩, some ⟨3, 1, false, (.sym (.v fun _ => m) fun e => [(.int .i64 (.v fun _ => (A (e.den))) (-9223372036854775808) 9223372036854775807)])⟩] (.bool (.v fun _ => ecB X Y n A m)) [some ⟨50, 2, false, (.sym (.v fun _ => n) fun e => [(.int .i64 (.v fun _ => (X (e.den))) (-1000) 1000), (.int .i64 (.v fun _ => (Y (e.den))) (-1000) 1000)])⟩, some ⟨3, 1, false, (.sym (.v fun _ => m) fun e => [(.int .i64 (.v fun _ => (A (e.den))) (-9223372036854775808) 9223372036854775807)])⟩] := by
  refine RunsTo.go env Try.func72 rfl Try.call72 rfl rfl (fun _ _ => (.callH (c_i_chosen_q X Y n A m) (.call (c_i_determines ((fun ι => ((X (((A ((ι))))))))) ((fun ι => ((Y (((A ((ι))))))))) m) (.ite (.callH (c_ContainsFunc_en_q ((fun ι => (((X (((A (((ι))))))))))) ((fun ι => (((Y (((A (((ι))))))))))) m X Y n) .ret) .ret)))) (G := ((0 ≤ n ∧ n ≤ 1048576) ∧ (0 ≤ m ∧ m ≤ 1048576)) → ((∀ e11 : E, ((0 ≤ e11.den ∧ e11.den < n) → (((-1000) ≤ ((X (e11.den))) ∧ ((X (e11.den))) ≤ 1000) ∧ ((-1000) ≤ ((Y (e11.den))) ∧ ((Y (e11.den))) ≤ 1000)))) ∧ (∀ e10 : E, ((0 ≤ e10.den ∧ e10.den < m) → ((-9223372036854775808) ≤ ((A (e10.den))) ∧ ((A (e10.den))) ≤ 9223372036854775807)))) → ((∀ i, 0 ≤ i → i < m → 0 ≤ A i ∧ A i < n) ∧ (((n = n) ∧ (m = m)) ∧ ((((n ≤ n) ∧ (∀ e2 : E, ((0 ≤ e2.den ∧ e2.den < n) → ((((X (e2.den))) = ((X (e2.den)))) ∧ (((Y (e2.den))) = ((Y (e2.den)))))))) ∧ ((m ≤ m) ∧ (∀ e1 : E, ((0 ≤ e1.den ∧ e1.den < m) → (((A (e1.den))) = ((A (e1.den)))))))) ∧ ((m = m) ∧ (((m ≤ m) ∧ (∀ e3 : E, ((0 ≤ e3.den ∧ e3.den < m) → (((((X (((A ((e3.den)))))))) = ((((X (((A (((e3.den))))))))))) ∧ ((((Y (((A ((e3.den)))))))) = ((((Y (((A (((e3.den))))))))))))))) ∧ ((((dtB ((fun ι => ((X (((A ((ι))))))))) ((fun ι => ((Y (((A ((ι))))))))) m) = true) → ((m = 1 ∨ m = 2 ∨ m = 3) ∧ ((n = n) ∧ ((((n ≤ n) ∧ (∀ e5 : E, ((0 ≤ e5.den ∧ e5.den < n) → ((((X (e5.den))) = ((X (e5.den)))) ∧ (((Y (e5.den))) = ((Y (e5.den)))))))) ∧ ((m = m) ∧ ((m ≤ m) ∧ (∀ e4 : E, ((0 ≤ e4.den ∧ e4.den < m) → ((((((X (((A (((e4.den)))))))))) = (((((X (((A ((((e4.den))))))))))))) ∧ (((((Y (((A (((e4.den)))))))))) = (((((Y (((A ((((e4.den))))))))))))))))))) ∧ ((((decide (0 ≤ fidx (fun i => !(enB ((fun ι => (((X (((A (((ι))))))))))) ((fun ι => (((Y (((A (((ι))))))))))) m ((X (i))) ((Y (i))))) n)) = false) ↔ ((ecB X Y n A m) = true)) ∧ (((n ≤ n) ∧ (∀ e7 : E, ((0 ≤ e7.den ∧ e7.den < n) → ((((X (e7.den))) = ((X (e7.den)))) ∧ (((Y (e7.den))) = ((Y (e7.den)))))))) ∧ ((m ≤ m) ∧ (∀ e6 : E, ((0 ≤ e6.den ∧ e6.den < m) → (((A (e6.den))) = ((A (e6.den))))))))))))) ∧ (((dtB ((fun ι => ((X (((A ((ι))))))))) ((fun ι => ((Y (((A ((ι))))))))) m) = false) → (((ecB X Y n A m) = false) ∧ (((n ≤ n) ∧ (∀ e9 : E, ((0 ≤ e9.den ∧ e9.den < n) → ((((X (e9.den))) = ((X (e9.den)))) ∧ (((Y (e9.den))) = ((Y (e9.den)))))))) ∧ ((m ≤ m) ∧ (∀ e8 : E, ((0 ≤ e8.den ∧ e8.den < m) → (((A (e8.den))) = ((A (e8.den))))))))))))))))) (by kernel_rfl) ?_
  intro h1 h2
  refine ⟨?_, ⟨rfl, rfl⟩, ⟨⟨Int.le_refl _, fun _ => fun _ => ⟨rfl, rfl⟩⟩, ⟨Int.le_refl _, fun _ => fun _ => rfl⟩⟩, rfl, ⟨Int.le_refl _, fun _ => fun _ => ⟨rfl, rfl⟩⟩, ?_, ?_⟩
  · omega
  · intro c12
    refine ⟨?_, rfl, ⟨⟨Int.le_refl _, fun _ => fun _ => ⟨rfl, rfl⟩⟩, ⟨rfl, ⟨Int.le_refl _, fun _ => fun _ => ⟨rfl, rfl⟩⟩⟩⟩, ?_, ⟨Int.le_refl _, fun _ => fun _ => ⟨rfl, rfl⟩⟩, Int.le_refl _, fun _ => fun _ => rfl⟩
    · exact ec_m (by assumption)
    · have hd : dtB (fun i => X (A i)) (fun i => Y (A i)) m = true := (by assumption); have hx := ec_idx (n := n) hd; (simp [← hx]; done)
  · intro c13
    refine ⟨?_, ⟨Int.le_refl _, fun _ => fun _ => ⟨rfl, rfl⟩⟩, Int.le_refl _, fun _ => fun _ => rfl⟩
    exact ec_no (by assumption)
def c_i_enclosing_q (X : Int → Int) (Y : Int → Int) (n : Int) (A : Int → Int) (m : Int) : CnH Try.prog := ⟨_, _, _, _, _, _, i_enclosing_q X Y n A m⟩
theorem s_inSupport_q (X : Int → Int) (Y : Int → Int) (n : Int) (A : Int → Int) (m : Int) (qX : Int) (qY : Int) (hp : (∀ i, 0 ≤ i → i < m → 0 ≤ A i ∧ A i < n) ∧ (m = 1 ∨ m = 2 ∨ m = 3)) : RunsTo Try.prog 116 [(.sl 0 2 (.lit 0) (.v fun _ => n) 1048576), (.sl 1 1 (.lit 0) (.v fun _ => m) 1048576), (.agg [(.int .i64 (.v fun _ => qX) (-1000) 1000), (.int .i64 (.v fun _ => qY) (-1000) 1000)])] [some ⟨50, 2, false, (.sym (.v fun _ => n) fun e => [(.int .i64 (.v fun _ => (X (e.den))) (-1000) 1000), (.int .i64 (.v fun _ => (Y (e.den))) (-1000) 1000)])⟩, some ⟨3, 1, false, (.sym (.v fun _ => m) fun e => [(.int .i64 (.v fun _ => (A (e.den))) (-9223372036854775808) 9223372036854775807)])⟩] (.bool (.v fun _ => enB (fun k => (X ((A (k))))) (fun k => (Y ((A (k))))) m qX qY)) [some ⟨50, 2, false, (.sym (.v fun _ => n) fun e => [(.int .i64 (.v fun _ => (X (e.den))) (-1000) 1000), (.int .i64 (.v fun _ => (Y (e.den))) (-1000) 1000)])⟩, some ⟨3, 1, false, (.sym (.v fun _ => m) fun e => [(.int .i64 (.v fun _ => (A (e.den))) (-9223372036854775808) 9223372036854775807)])⟩] := by
  refine RunsTo.go env Try.func116 rfl Try.call116 rfl rfl (fun _ _ => (.need (.need (.need (.need (.ite .ret (.ite (.need (.need (.need (.need (.call (c_s_dot qX qY ((X ((A (0))))) ((Y ((A (0))))) ((X ((A (1))))) ((Y ((A (1)))))) .ret))))) (.need (.need (.need (.need (.need (.need (.need (.need (.call (c_s_inCircle ((X ((A (0))))) ((Y ((A (0))))) ((X ((A (1))))) ((Y ((A (1))))) ((X ((A (2))))) ((Y ((A (2))))) qX qY) (.call (c_s_cross ((X ((A (0))))) ((Y ((A (0))))) ((X ((A (1))))) ((Y ((A (1))))) ((X ((A (2))))) ((Y ((A (2)))))) (.call (c_s_sign (trn ((X ((A (0))))) ((Y ((A (0))))) ((X ((A (1))))) ((Y ((A (1))))) ((X ((A (2))))) ((Y ((A (2))))))) .ret)))))))))))))))))) (G := ((0 ≤ n ∧ n ≤ 1048576) ∧ ((0 ≤ m ∧ m ≤ 1048576) ∧ (((-1000) ≤ qX ∧ qX ≤ 1000) ∧ ((-1000) ≤ qY ∧ qY ≤ 1000)))) → ((∀ e8 : E, ((0 ≤ e8.den ∧ e8.den < n) → (((-1000) ≤ ((X (e8.den))) ∧ ((X (e8.den))) ≤ 1000) ∧ ((-1000) ≤ ((Y (e8.den))) ∧ ((Y (e8.den))) ≤ 1000)))) ∧ (∀ e7 : E, ((0 ≤ e7.den ∧ e7.den < m) → ((-9223372036854775808) ≤ ((A (e7.den))) ∧ ((A (e7.den))) ≤ 9223372036854775807)))) → ((0 < m) ∧ ((0 < m) ∧ ((((0 ≤ ((A (0)))) ∧ (((A (0))) < n))) ∧ ((((A (0))) < n) ∧ (((m = 1) → (((((((X ((A (0))))) = qX) ∧ (((Y ((A (0))))) = qY))) ↔ ((enB (fun k => (X ((A (k))))) (fun k => (Y ((A (k))))) m qX qY) = true)) ∧ (((n ≤ n) ∧ (∀ e2 : E, ((0 ≤ e2.den ∧ e2.den < n) → ((((X (e2.den))) = ((X (e2.den)))) ∧ (((Y (e2.den))) = ((Y (e2.den)))))))) ∧ ((m ≤ m) ∧ (∀ e1 : E, ((0 ≤ e1.den ∧ e1.den < m) → (((A (e1.den))) = ((A (e1.den)))))))))) ∧ ((m ≠ 1) → (((m = 2) → ((1 < m) ∧ ((1 < m) ∧ ((((0 ≤ ((A (1)))) ∧ (((A (1))) < n))) ∧ ((((A (1))) < n) ∧ ((((qX = qX) ∧ (qY = qY)) ∧ (((((X ((A (0))))) = ((X ((A (0)))))) ∧ (((Y ((A (0))))) = ((Y ((A (0))))))) ∧ ((((X ((A (1))))) = ((X ((A (1)))))) ∧ (((Y ((A (1))))) = ((Y ((A (1))))))))) ∧ ((((dt3 qX qY ((X ((A (0))))) ((Y ((A (0))))) ((X ((A (1))))) ((Y ((A (1)))))) ≤ 0) ↔ ((enB (fun k => (X ((A (k))))) (fun k => (Y ((A (k))))) m qX qY) = true)) ∧ (((n ≤ n) ∧ (∀ e4 : E, ((0 ≤ e4.den ∧ e4.den < n) → ((((X (e4.den))) = ((X (e4.den)))) ∧ (((Y (e4.den))) = ((Y (e4.den)))))))) ∧ ((m ≤ m) ∧ (∀ e3 : E, ((0 ≤ e3.den ∧ e3.den < m) → (((A (e3.den))) = ((A (e3.den))))))))))))))) ∧ ((m ≠ 2) → ((1 < m) ∧ ((1 < m) ∧ ((((0 ≤ ((A (1)))) ∧ (((A (1))) < n))) ∧ ((((A (1))) < n) ∧ ((2 < m) ∧ ((2 < m) ∧ ((((0 ≤ ((A (2)))) ∧ (((A (2))) < n))) ∧ ((((A (2))) < n) ∧ ((((((X ((A (0))))) = ((X ((A (0)))))) ∧ (((Y ((A (0))))) = ((Y ((A (0))))))) ∧ (((((X ((A (1))))) = ((X ((A (1)))))) ∧ (((Y ((A (1))))) = ((Y ((A (1))))))) ∧ (((((X ((A (2))))) = ((X ((A (2)))))) ∧ (((Y ((A (2))))) = ((Y ((A (2))))))) ∧ ((qX = qX) ∧ (qY = qY))))) ∧ ((((((X ((A (0))))) = ((X ((A (0)))))) ∧ (((Y ((A (0))))) = ((Y ((A (0))))))) ∧ (((((X ((A (1))))) = ((X ((A (1)))))) ∧ (((Y ((A (1))))) = ((Y ((A (1))))))) ∧ ((((X ((A (2))))) = ((X ((A (2)))))) ∧ (((Y ((A (2))))) = ((Y ((A (2))))))))) ∧ (((trn ((X ((A (0))))) ((Y ((A (0))))) ((X ((A (1))))) ((Y ((A (1))))) ((X ((A (2))))) ((Y ((A (2)))))) = ((trn ((X ((A (0))))) ((Y ((A (0))))) ((X ((A (1))))) ((Y ((A (1))))) ((X ((A (2))))) ((Y ((A (2)))))))) ∧ (((0 ≤ ((sgn (circ ((X ((A (0))))) ((Y ((A (0))))) ((X ((A (1))))) ((Y ((A (1))))) ((X ((A (2))))) ((Y ((A (2))))) qX qY)) * (sgn (trn ((X ((A (0))))) ((Y ((A (0))))) ((X ((A (1))))) ((Y ((A (1))))) ((X ((A (2))))) ((Y ((A (2))))))))) ↔ ((enB (fun k => (X ((A (k))))) (fun k => (Y ((A (k))))) m qX qY) = true)) ∧ (((n ≤ n) ∧ (∀ e6 : E, ((0 ≤ e6.den ∧ e6.den < n) → ((((X (e6.den))) = ((X (e6.den)))) ∧ (((Y (e6.den))) = ((Y (e6.den)))))))) ∧ ((m ≤ m) ∧ (∀ e5 : E, ((0 ≤ e5.den ∧ e5.den < m) → (((A (e5.den))) = ((A (e5.den))))))))))))))))))))))))))))) (by kernel_rfl) ?_
  intro h1 h2
  refine ⟨?_, ?_, ?_, ?_, ?_, ?_⟩
  · omega
  · omega
  · have h0 := hp.1 0 (by omega) (by omega); omega
  · have h0 := hp.1 0 (by omega) (by omega); omega
  · intro c9
    refine ⟨?_, ⟨Int.le_refl _, fun _ => fun _ => ⟨rfl, rfl⟩⟩, Int.le_refl _, fun _ => fun _ => rfl⟩
    rw [en_1 (by assumption)]; (simp; done)
  · intro c10
    refine ⟨?_, ?_⟩
    · intro c11
      refine ⟨?_, ?_, ?_, ?_, ⟨⟨rfl, rfl⟩, ⟨⟨rfl, rfl⟩, ⟨rfl, rfl⟩⟩⟩, ?_, ⟨Int.le_refl _, fun _ => fun _ => ⟨rfl, rfl⟩⟩, Int.le_refl _, fun _ => fun _ => rfl⟩
      · omega
      · omega
      · have h0 := hp.1 0 (by omega) (by omega); have h1 := hp.1 1 (by omega) (by omega); omega
      · have h0 := hp.1 0 (by omega) (by omega); have h1 := hp.1 1 (by omega) (by omega); omega
      · rw [en_2 (by assumption)]; (simp; done)
    · intro c12
      refine ⟨?_, ?_, ?_, ?_, ?_, ?_, ?_, ?_, ⟨⟨rfl, rfl⟩, ⟨⟨rfl, rfl⟩, ⟨⟨rfl, rfl⟩, ⟨rfl, rfl⟩⟩⟩⟩, ⟨⟨rfl, rfl⟩, ⟨⟨rfl, rfl⟩, ⟨rfl, rfl⟩⟩⟩, rfl, ?_, ⟨Int.le_refl _, fun _ => fun _ => ⟨rfl, rfl⟩⟩, Int.le_refl _, fun _ => fun _ => rfl⟩
      · omega
      · omega
      · have h0 := hp.1 0 (by omega) (by omega); have h1 := hp.1 1 (by omega) (by omega); omega
      · have h0 := hp.1 0 (by omega) (by omega); have h1 := hp.1 1 (by omega) (by omega); omega
      · omega
      · omega
      · have h0 := hp.1 0 (by omega) (by omega); have h1 := hp.1 1 (by omega) (by omega); (have h2 := hp.1 2 (by omega) (by omega); omega)
      · have h0 := hp.1 0 (by omega) (by omega); have h1 := hp.1 1 (by omega) (by omega); (have h2 := hp.1 2 (by omega) (by omega); omega)
      · rw [en_3 (by assumption) (by assumption)]; (rw [decide_eq_true_eq]; done)
def c_s_inSupport_q (X : Int → Int) (Y : Int → Int) (n : Int) (A : Int → Int) (m : Int) (qX : Int) (qY : Int) : CnH Try.prog := ⟨_, _, _, _, _, _, s_inSupport_q X Y n A m qX qY⟩
theorem s_encloses_q (X : Int → Int) (Y : Int → Int) (n : Int) (A : Int → Int) (m : Int) (hp : (∀ i, 0 ≤ i → i < m → 0 ≤ A i ∧ A i < n) ∧ (m = 1 ∨ m = 2 ∨ m = 3)) : RunsTo Try.prog 69 [(.sl 0 2 (.lit 0) (.v fun _ => n) 1048576), (.sl 1 1 (.lit 0) (.v fun _ => m) 1048576)] [some ⟨50, 2, false, (.sym (.v fun _ => n) fun e => [(.int .i64 (.v fun _ => (X (e.den))) (-1000) 1000), (.int .i64 (.v fun _ => (Y (e.den))) (-1000) 1000)])⟩, some ⟨3, 1, false, (.sym (.v fun _ => m) fun e => [(.int .i64 (.v fun _ => (A (e.den))) (-9223372036854775808) 9223372036854775807)])⟩] (.bool (.v fun _ => eaB X Y n A m)) [some ⟨50, 2, false, (.sym (.v fun _ => n) fun e => [(.int .i64 (.v fun _ => (X (e.den))) (-1000) 1000), (.int .i64 (.v fun _ => (Y (e.den))) (-1000) 1000)])⟩, some ⟨3, 1, false, (.sym (.v fun _ => m) fun e => [(.int .i64 (.v fun _ => (A (e.den))) (-9223372036854775808) 9223372036854775807)])⟩] := by
  refine RunsTo.go env Try.func69 rfl Try.call69 rfl rfl (fun _ _ => (.loop [] [0, 1] (Int) (fun x1 => ⟨spl 20 0 [(0, (.sl 0 2 (.lit 0) (.v fun _ => n) 1048576)), (1, (.sl 1 1 (.lit 0) (.v fun _ => m) 1048576)), (5, (.int .i64 (.v fun _ => x1) 0 1048576))], [some ⟨50, 2, false, (.sym (.v fun _ => n) fun e => [(.int .i64 (.v fun _ => (X (e.den))) (-1000) 1000), (.int .i64 (.v fun _ => (Y (e.den))) (-1000) 1000)])⟩, some ⟨3, 1, false, (.sym (.v fun _ => m) fun e => [(.int .i64 (.v fun _ => (A (e.den))) (-9223372036854775808) 9223372036854775807)])⟩], 2⟩) (fun x1 => (0 ≤ x1 ∧ x1 ≤ n) ∧ ∀ i, 0 ≤ i → i < x1 → enB (fun k => (X ((A (k))))) (fun k => (Y ((A (k))))) m (X (i)) (Y (i)) = true) (fun x1 => (n - x1).toNat) fun x1 => (.ite (.need (.need (.callH (c_s_inSupport_q X Y n A m ((X (x1))) ((Y (x1)))) (.ite (.out .ret) (.next [0, 1]))))) (.out .ret)))) (G := ((0 ≤ n ∧ n ≤ 1048576) ∧ (0 ≤ m ∧ m ≤ 1048576)) → ((∀ e15 : E, ((0 ≤ e15.den ∧ e15.den < n) → (((-1000) ≤ ((X (e15.den))) ∧ ((X (e15.den))) ≤ 1000) ∧ ((-1000) ≤ ((Y (e15.den))) ∧ ((Y (e15.den))) ≤ 1000)))) ∧ (∀ e14 : E, ((0 ≤ e14.den ∧ e14.den < m) → ((-9223372036854775808) ≤ ((A (e14.den))) ∧ ((A (e14.den))) ≤ 9223372036854775807)))) → ((∃ y2 : Int, (((0 ≤ y2 ∧ y2 ≤ n) ∧ ∀ i, 0 ≤ i → i < y2 → enB (fun k => (X ((A (k))))) (fun k => (Y ((A (k))))) m (X (i)) (Y (i)) = true) ∧ (((n = n) ∧ ((m = m) ∧ ((0 : Int) = y2))) ∧ (((n ≤ n) ∧ (∀ e4 : E, ((0 ≤ e4.den ∧ e4.den < n) → ((((X (e4.den))) = ((X (e4.den)))) ∧ (((Y (e4.den))) = ((Y (e4.den)))))))) ∧ ((m ≤ m) ∧ (∀ e3 : E, ((0 ≤ e3.den ∧ e3.den < m) → (((A (e3.den))) = ((A (e3.den))))))))))) ∧ (∀ x1 : Int, (((0 ≤ x1 ∧ x1 ≤ n) ∧ ∀ i, 0 ≤ i → i < x1 → enB (fun k => (X ((A (k))))) (fun k => (Y ((A (k))))) m (X (i)) (Y (i)) = true) → (((x1 < n) → ((((0 ≤ x1) ∧ (x1 < n))) ∧ ((x1 < n) ∧ (((∀ i, 0 ≤ i → i < m → 0 ≤ A i ∧ A i < n) ∧ (m = 1 ∨ m = 2 ∨ m = 3)) ∧ (((n = n) ∧ ((m = m) ∧ ((((X (x1))) = ((X (x1)))) ∧ (((Y (x1))) = ((Y (x1))))))) ∧ ((((n ≤ n) ∧ (∀ e6 : E, ((0 ≤ e6.den ∧ e6.den < n) → ((((X (e6.den))) = ((X (e6.den)))) ∧ (((Y (e6.den))) = ((Y (e6.den)))))))) ∧ ((m ≤ m) ∧ (∀ e5 : E, ((0 ≤ e5.den ∧ e5.den < m) → (((A (e5.den))) = ((A (e5.den)))))))) ∧ ((((enB (fun k => ((X (((A (k))))))) (fun k => ((Y (((A (k))))))) m ((X (x1))) ((Y (x1)))) = false) → (((eaB X Y n A m) = false) ∧ (((n ≤ n) ∧ (∀ e8 : E, ((0 ≤ e8.den ∧ e8.den < n) → ((((X (e8.den))) = ((X (e8.den)))) ∧ (((Y (e8.den))) = ((Y (e8.den)))))))) ∧ ((m ≤ m) ∧ (∀ e7 : E, ((0 ≤ e7.den ∧ e7.den < m) → (((A (e7.den))) = ((A (e7.den)))))))))) ∧ (((enB (fun k => ((X (((A (k))))))) (fun k => ((Y (((A (k))))))) m ((X (x1))) ((Y (x1)))) = true) → (∃ y9 : Int, (((0 ≤ y9 ∧ y9 ≤ n) ∧ ∀ i, 0 ≤ i → i < y9 → enB (fun k => (X ((A (k))))) (fun k => (Y ((A (k))))) m (X (i)) (Y (i)) = true) ∧ ((((n = n) ∧ ((m = m) ∧ (((x1 + 1) = y9) ∧ ((1 ≤ (x1 + 1) ∧ (x1 + 1) ≤ 1048577) → (0 ≤ y9 ∧ y9 ≤ 1048576))))) ∧ (((n ≤ n) ∧ (∀ e11 : E, ((0 ≤ e11.den ∧ e11.den < n) → ((((X (e11.den))) = ((X (e11.den)))) ∧ (((Y (e11.den))) = ((Y (e11.den)))))))) ∧ ((m ≤ m) ∧ (∀ e10 : E, ((0 ≤ e10.den ∧ e10.den < m) → (((A (e10.den))) = ((A (e10.den))))))))) ∧ ((n - y9).toNat < (n - x1).toNat)))))))))))) ∧ ((n ≤ x1) → (((eaB X Y n A m) = true) ∧ (((n ≤ n) ∧ (∀ e13 : E, ((0 ≤ e13.den ∧ e13.den < n) → ((((X (e13.den))) = ((X (e13.den)))) ∧ (((Y (e13.den))) = ((Y (e13.den)))))))) ∧ ((m ≤ m) ∧ (∀ e12 : E, ((0 ≤ e12.den ∧ e12.den < m) → (((A (e12.den))) = ((A (e12.den))))))))))))))) (by kernel_rfl) ?_
  intro h1 h2
  refine ⟨?_, ?_⟩
  · refine ⟨0, ?_⟩
    try dsimp only
    refine ⟨?_, ?_, ⟨Int.le_refl _, fun _ => fun _ => ⟨rfl, rfl⟩⟩, Int.le_refl _, fun _ => fun _ => rfl⟩
    · refine ⟨by omega, fun i a b => ?_⟩; (exfalso; omega)
    · refine ⟨rfl, rfl, ?_⟩
      rfl
  · intro j
    intro I1
    refine ⟨?_, ?_⟩
    · intro c16
      refine ⟨?_, ?_, ?_, ⟨rfl, ⟨rfl, ⟨rfl, rfl⟩⟩⟩, ⟨⟨Int.le_refl _, fun _ => fun _ => ⟨rfl, rfl⟩⟩, ⟨Int.le_refl _, fun _ => fun _ => rfl⟩⟩, ?_, ?_⟩
      · omega
      · omega
      · omega
      · intro c17
        refine ⟨?_, ⟨Int.le_refl _, fun _ => fun _ => ⟨rfl, rfl⟩⟩, Int.le_refl _, fun _ => fun _ => rfl⟩
        unfold eaB; exact allB_false I1.1.1 (by omega) (by assumption)
      · intro c18
        refine ⟨j + 1, ?_⟩
        try dsimp only
        refine ⟨?_, ?_, ?_⟩
        · refine ⟨by omega, fun i a b => ?_⟩; (by_cases e : i = j; (subst e; assumption); exact I1.2 i a (by omega))
        · refine ⟨?_, ⟨Int.le_refl _, fun _ => fun _ => ⟨rfl, rfl⟩⟩, Int.le_refl _, fun _ => fun _ => rfl⟩
          refine ⟨rfl, rfl, ?_, ?_⟩
          · rfl
          · intro c19
            omega
        · omega
    · intro c20
      refine ⟨?_, ⟨Int.le_refl _, fun _ => fun _ => ⟨rfl, rfl⟩⟩, Int.le_refl _, fun _ => fun _ => rfl⟩
      unfold eaB; exact allB_iff.2 fun i a b => I1.2 i a (by omega)
def c_s_encloses_q (X : Int → Int) (Y : Int → Int) (n : Int) (A : Int → Int) (m : Int) : CnH Try.prog := ⟨_, _, _, _, _, _, s_encloses_q X Y n A m⟩
end Go.Proofs.Ytcfkpdjbjfnnmaa
