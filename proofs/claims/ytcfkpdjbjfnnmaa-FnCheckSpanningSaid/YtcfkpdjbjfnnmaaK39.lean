/- TotalLength only reads. -/
import Derived.Test.YtcfkpdjbjfnnmaaK15
import Derived.Test.YtcfkpdjbjfnnmaaPv
set_option linter.unusedSimpArgs false
set_option linter.unusedVariables false
set_option maxRecDepth 100000
namespace Go.Proofs.Ytcfkpdjbjfnnmaa
open Go.Sym
theorem IndexFunc_p1_q (X : Int → Int) (Y : Int → Int) (n : Int) : RunsTo Try.prog 137 [(.sl 0 2 (.lit 0) (.v fun _ => n) 1048576), (.fn 130 [])] [some ⟨50, 2, false, (.sym (.v fun _ => n) fun e => [(.int .i64 (.v fun _ => (X (e.den))) (-9223372036854775808) 9223372036854775807), (.int .i64 (.v fun _ => (Y (e.den))) (-9223372036854775808) 9223372036854775807)])⟩] (.int .i64 (.v fun _ => fidx (fun i => !(okP (X (i)) (Y (i)))) n) (-1) 1048576) [some ⟨50, 2, false, (.sym (.v fun _ => n) fun e => [(.int .i64 (.v fun _ => (X (e.den))) (-9223372036854775808) 9223372036854775807), (.int .i64 (.v fun _ => (Y (e.den))) (-9223372036854775808) 9223372036854775807)])⟩] := by
  refine RunsTo.go env Try.func137 rfl Try.call137 rfl rfl (fun _ _ => (.loop [] [0] (Int) (fun x1 => ⟨spl 19 0 [(0, (.sl 0 2 (.lit 0) (.v fun _ => n) 1048576)), (1, (.fn 130 [])), (7, (.int .i64 (.v fun _ => n) 0 1048576)), (8, (.int .i64 (.v fun _ => x1) 0 1048576))], [some ⟨50, 2, false, (.sym (.v fun _ => n) fun e => [(.int .i64 (.v fun _ => (X (e.den))) (-9223372036854775808) 9223372036854775807), (.int .i64 (.v fun _ => (Y (e.den))) (-9223372036854775808) 9223372036854775807)])⟩], 1⟩) (fun x1 => (0 ≤ x1 ∧ x1 ≤ n) ∧ ∀ i, 0 ≤ i → i < x1 → (!(okP (X (i)) (Y (i)))) = false) (fun x1 => (n - x1).toNat) fun x1 => (.ite (.need (.need (.call (c_i_allValid1 ((X (x1))) ((Y (x1)))) (.ite (.out .ret) (.next [0]))))) (.out .ret)))) (G := (0 ≤ n ∧ n ≤ 1048576) → (∀ e8 : E, ((0 ≤ e8.den ∧ e8.den < n) → (((-9223372036854775808) ≤ ((X (e8.den))) ∧ ((X (e8.den))) ≤ 9223372036854775807) ∧ ((-9223372036854775808) ≤ ((Y (e8.den))) ∧ ((Y (e8.den))) ≤ 9223372036854775807)))) → ((∃ y2 : Int, (((0 ≤ y2 ∧ y2 ≤ n) ∧ ∀ i, 0 ≤ i → i < y2 → (!(okP (X (i)) (Y (i)))) = false) ∧ (((n = n) ∧ ((n = n) ∧ ((0 : Int) = y2))) ∧ ((n ≤ n) ∧ (∀ e3 : E, ((0 ≤ e3.den ∧ e3.den < n) → ((((X (e3.den))) = ((X (e3.den)))) ∧ (((Y (e3.den))) = ((Y (e3.den))))))))))) ∧ (∀ x1 : Int, (((0 ≤ x1 ∧ x1 ≤ n) ∧ ∀ i, 0 ≤ i → i < x1 → (!(okP (X (i)) (Y (i)))) = false) → (((x1 < n) → ((((0 ≤ x1) ∧ (x1 < n))) ∧ ((x1 < n) ∧ (((((X (x1))) = ((X (x1)))) ∧ (((Y (x1))) = ((Y (x1))))) ∧ ((((!(okP ((X (x1))) ((Y (x1))))) = true) → ((x1 = (fidx (fun i => !(okP (X (i)) (Y (i)))) n)) ∧ ((n ≤ n) ∧ (∀ e4 : E, ((0 ≤ e4.den ∧ e4.den < n) → ((((X (e4.den))) = ((X (e4.den)))) ∧ (((Y (e4.den))) = ((Y (e4.den)))))))))) ∧ (((!(okP ((X (x1))) ((Y (x1))))) = false) → (∃ y5 : Int, (((0 ≤ y5 ∧ y5 ≤ n) ∧ ∀ i, 0 ≤ i → i < y5 → (!(okP (X (i)) (Y (i)))) = false) ∧ ((((n = n) ∧ ((n = n) ∧ (((x1 + 1) = y5) ∧ ((1 ≤ (x1 + 1) ∧ (x1 + 1) ≤ 1048577) → (0 ≤ y5 ∧ y5 ≤ 1048576))))) ∧ ((n ≤ n) ∧ (∀ e6 : E, ((0 ≤ e6.den ∧ e6.den < n) → ((((X (e6.den))) = ((X (e6.den)))) ∧ (((Y (e6.den))) = ((Y (e6.den))))))))) ∧ ((n - y5).toNat < (n - x1).toNat)))))))))) ∧ ((n ≤ x1) → ((((-1) : Int) = (fidx (fun i => !(okP (X (i)) (Y (i)))) n)) ∧ ((n ≤ n) ∧ (∀ e7 : E, ((0 ≤ e7.den ∧ e7.den < n) → ((((X (e7.den))) = ((X (e7.den)))) ∧ (((Y (e7.den))) = ((Y (e7.den))))))))))))))) (by kernel_rfl) ?_
  intro h1 h2
  have hn := h1.1
  have hb := fidx_bd (fun i => !(okP (X i) (Y i))) h1.1
  refine ⟨?_, ?_⟩
  · refine ⟨0, ?_⟩
    try dsimp only
    refine ⟨?_, ?_, Int.le_refl _, fun _ => fun _ => ⟨rfl, rfl⟩⟩
    · exact ⟨by omega, fun i a b => by omega⟩
    · refine ⟨rfl, rfl, ?_⟩
      rfl
  · intro j
    intro I1
    refine ⟨?_, ?_⟩
    · intro c9
      refine ⟨?_, ?_, ⟨rfl, rfl⟩, ?_, ?_⟩
      · omega
      · omega
      · intro c10
        refine ⟨?_, Int.le_refl _, fun _ => fun _ => ⟨rfl, rfl⟩⟩
        exact (fidx_found I1.1.1 (by omega) (by assumption) I1.2).symm
      · intro c11
        refine ⟨j + 1, ?_⟩
        try dsimp only
        refine ⟨?_, ?_, ?_⟩
        · refine ⟨by omega, fun i a b => ?_⟩; by_cases e : i = j; (subst e; assumption); exact I1.2 i a (by omega)
        · refine ⟨?_, Int.le_refl _, fun _ => fun _ => ⟨rfl, rfl⟩⟩
          refine ⟨rfl, rfl, ?_, ?_⟩
          · rfl
          · intro c12
            omega
        · omega
    · intro c13
      refine ⟨?_, Int.le_refl _, fun _ => fun _ => ⟨rfl, rfl⟩⟩
      exact (fidx_none fun i a b => I1.2 i a (by omega)).symm
def c_IndexFunc_p1_q (X : Int → Int) (Y : Int → Int) (n : Int) : Cn Try.prog := ⟨_, _, _, _, _, IndexFunc_p1_q X Y n⟩
theorem ContainsFunc_p1_q (X : Int → Int) (Y : Int → Int) (n : Int) : RunsTo Try.prog 117 [(.sl 0 2 (.lit 0) (.v fun _ => n) 1048576), (.fn 130 [])] [some ⟨50, 2, false, (.sym (.v fun _ => n) fun e => [(.int .i64 (.v fun _ => (X (e.den))) (-9223372036854775808) 9223372036854775807), (.int .i64 (.v fun _ => (Y (e.den))) (-9223372036854775808) 9223372036854775807)])⟩] (.bool (.v fun _ => decide (0 ≤ fidx (fun i => !(okP (X (i)) (Y (i)))) n))) [some ⟨50, 2, false, (.sym (.v fun _ => n) fun e => [(.int .i64 (.v fun _ => (X (e.den))) (-9223372036854775808) 9223372036854775807), (.int .i64 (.v fun _ => (Y (e.den))) (-9223372036854775808) 9223372036854775807)])⟩] := by
  refine RunsTo.go env Try.func117 rfl Try.call117 rfl rfl (fun _ _ => (.call (c_IndexFunc_p1_q X Y n) .ret)) (G := (0 ≤ n ∧ n ≤ 1048576) → (∀ e3 : E, ((0 ≤ e3.den ∧ e3.den < n) → (((-9223372036854775808) ≤ ((X (e3.den))) ∧ ((X (e3.den))) ≤ 9223372036854775807) ∧ ((-9223372036854775808) ≤ ((Y (e3.den))) ∧ ((Y (e3.den))) ≤ 9223372036854775807)))) → ((n = n) ∧ (((n ≤ n) ∧ (∀ e1 : E, ((0 ≤ e1.den ∧ e1.den < n) → ((((X (e1.den))) = ((X (e1.den)))) ∧ (((Y (e1.den))) = ((Y (e1.den)))))))) ∧ (((0 ≤ (fidx (fun i => !(okP ((X (i))) ((Y (i))))) n)) ↔ ((decide (0 ≤ fidx (fun i => !(okP (X (i)) (Y (i)))) n)) = true)) ∧ ((n ≤ n) ∧ (∀ e2 : E, ((0 ≤ e2.den ∧ e2.den < n) → ((((X (e2.den))) = ((X (e2.den)))) ∧ (((Y (e2.den))) = ((Y (e2.den)))))))))))) (by kernel_rfl) ?_
  intro h1 h2
  refine ⟨rfl, ⟨Int.le_refl _, fun _ => fun _ => ⟨rfl, rfl⟩⟩, ?_, Int.le_refl _, fun _ => fun _ => ⟨rfl, rfl⟩⟩
  -- 1: (0 ≤ (fidx (fun i => !(okP ((X (i))) ((Y (i))))) n)) ↔ ((decide (0 ≤ fidx (fun i => !(okP (X (i)) (Y
  simp
def c_ContainsFunc_p1_q (X : Int → Int) (Y : Int → Int) (n : Int) : Cn Try.prog := ⟨_, _, _, _, _, ContainsFunc_p1_q X Y n⟩
theorem i_allValid_q (X : Int → Int) (Y : Int → Int) (n : Int) : RunsTo Try.prog 97 [(.sl 0 2 (.lit 0) (.v fun _ => n) 1048576)] [some ⟨50, 2, false, (.sym (.v fun _ => n) fun e => [(.int .i64 (.v fun _ => (X (e.den))) (-9223372036854775808) 9223372036854775807), (.int .i64 (.v fun _ => (Y (e.den))) (-9223372036854775808) 9223372036854775807)])⟩] (.bool (.v fun _ => allB (fun i => okP (X (i)) (Y (i))) n)) [some ⟨50, 2, false, (.sym (.v fun _ => n) fun e => [(.int .i64 (.v fun _ => (X (e.den))) (-9223372036854775808) 9223372036854775807), (.int .i64 (.v fun _ => (Y (e.den))) (-9223372036854775808) 9223372036854775807)])⟩] := by
  refine RunsTo.go env Try.func97 rfl Try.call97 rfl rfl (fun _ _ => (.call (c_ContainsFunc_p1_q X Y n) .ret)) (G := (0 ≤ n ∧ n ≤ 1048576) → (∀ e3 : E, ((0 ≤ e3.den ∧ e3.den < n) → (((-9223372036854775808) ≤ ((X (e3.den))) ∧ ((X (e3.den))) ≤ 9223372036854775807) ∧ ((-9223372036854775808) ≤ ((Y (e3.den))) ∧ ((Y (e3.den))) ≤ 9223372036854775807)))) → ((n = n) ∧ (((n ≤ n) ∧ (∀ e1 : E, ((0 ≤ e1.den ∧ e1.den < n) → ((((X (e1.den))) = ((X (e1.den)))) ∧ (((Y (e1.den))) = ((Y (e1.den)))))))) ∧ ((((decide (0 ≤ fidx (fun i => !(okP ((X (i))) ((Y (i))))) n)) = false) ↔ ((allB (fun i => okP (X (i)) (Y (i))) n) = true)) ∧ ((n ≤ n) ∧ (∀ e2 : E, ((0 ≤ e2.den ∧ e2.den < n) → ((((X (e2.den))) = ((X (e2.den)))) ∧ (((Y (e2.den))) = ((Y (e2.den)))))))))))) (by kernel_rfl) ?_
  intro h1 h2
  refine ⟨rfl, ⟨Int.le_refl _, fun _ => fun _ => ⟨rfl, rfl⟩⟩, ?_, Int.le_refl _, fun _ => fun _ => ⟨rfl, rfl⟩⟩
  -- 1: ((decide (0 ≤ fidx (fun i => !(okP ((X (i))) ((Y (i))))) n)) = false) ↔ ((allB (fun i => okP (X (i))
  rw [← fidx_neg]; simp
def c_i_allValid_q (X : Int → Int) (Y : Int → Int) (n : Int) : Cn Try.prog := ⟨_, _, _, _, _, i_allValid_q X Y n⟩
theorem i_listOk_q (X : Int → Int) (Y : Int → Int) (n : Int) : RunsTo Try.prog 70 [(.sl 0 2 (.lit 0) (.v fun _ => n) 1048576)] [some ⟨50, 2, false, (.sym (.v fun _ => n) fun e => [(.int .i64 (.v fun _ => (X (e.den))) (-9223372036854775808) 9223372036854775807), (.int .i64 (.v fun _ => (Y (e.den))) (-9223372036854775808) 9223372036854775807)])⟩] (.bool (.v fun _ => listB X Y n)) [some ⟨50, 2, false, (.sym (.v fun _ => n) fun e => [(.int .i64 (.v fun _ => (X (e.den))) (-9223372036854775808) 9223372036854775807), (.int .i64 (.v fun _ => (Y (e.den))) (-9223372036854775808) 9223372036854775807)])⟩] := by
  refine RunsTo.go env Try.func70 rfl Try.call70 rfl rfl (fun _ _ => (.ite (.call (c_i_allValid_q X Y n) .ret) .ret)) (G := (0 ≤ n ∧ n ≤ 1048576) → (∀ e4 : E, ((0 ≤ e4.den ∧ e4.den < n) → (((-9223372036854775808) ≤ ((X (e4.den))) ∧ ((X (e4.den))) ≤ 9223372036854775807) ∧ ((-9223372036854775808) ≤ ((Y (e4.den))) ∧ ((Y (e4.den))) ≤ 9223372036854775807)))) → (((n ≤ 20) → ((n = n) ∧ (((n ≤ n) ∧ (∀ e1 : E, ((0 ≤ e1.den ∧ e1.den < n) → ((((X (e1.den))) = ((X (e1.den)))) ∧ (((Y (e1.den))) = ((Y (e1.den)))))))) ∧ ((((allB (fun i => okP ((X (i))) ((Y (i)))) n) = true) ↔ ((listB X Y n) = true)) ∧ ((n ≤ n) ∧ (∀ e2 : E, ((0 ≤ e2.den ∧ e2.den < n) → ((((X (e2.den))) = ((X (e2.den)))) ∧ (((Y (e2.den))) = ((Y (e2.den)))))))))))) ∧ ((20 < n) → (((listB X Y n) = false) ∧ ((n ≤ n) ∧ (∀ e3 : E, ((0 ≤ e3.den ∧ e3.den < n) → ((((X (e3.den))) = ((X (e3.den)))) ∧ (((Y (e3.den))) = ((Y (e3.den)))))))))))) (by kernel_rfl) ?_
  intro h1 h2
  refine ⟨?_, ?_⟩
  · intro c5
    refine ⟨rfl, ⟨Int.le_refl _, fun _ => fun _ => ⟨rfl, rfl⟩⟩, ?_, Int.le_refl _, fun _ => fun _ => ⟨rfl, rfl⟩⟩
    -- 1: ((allB (fun i => okP ((X (i))) ((Y (i)))) n) = true) ↔ ((listB X Y n) = true)
    simp [listB]; try omega
  · intro c6
    refine ⟨?_, Int.le_refl _, fun _ => fun _ => ⟨rfl, rfl⟩⟩
    -- 2: (listB X Y n) = false
    simp [listB]; try omega
def c_i_listOk_q (X : Int → Int) (Y : Int → Int) (n : Int) : Cn Try.prog := ⟨_, _, _, _, _, i_listOk_q X Y n⟩
theorem s_validPoints_q (X : Int → Int) (Y : Int → Int) (n : Int) : RunsTo Try.prog 50 [(.sl 0 2 (.lit 0) (.v fun _ => n) 1048576)] [some ⟨50, 2, false, (.sym (.v fun _ => n) fun e => [(.int .i64 (.v fun _ => (X (e.den))) (-9223372036854775808) 9223372036854775807), (.int .i64 (.v fun _ => (Y (e.den))) (-9223372036854775808) 9223372036854775807)])⟩] (.bool (.v fun _ => listB X Y n)) [some ⟨50, 2, false, (.sym (.v fun _ => n) fun e => [(.int .i64 (.v fun _ => (X (e.den))) (-9223372036854775808) 9223372036854775807), (.int .i64 (.v fun _ => (Y (e.den))) (-9223372036854775808) 9223372036854775807)])⟩] := by
  refine RunsTo.go env Try.func50 rfl Try.call50 rfl rfl (fun _ _ => (.loop [] [0] (Int) (fun x1 => ⟨spl 19 0 [(0, (.sl 0 2 (.lit 0) (.v fun _ => n) 1048576)), (3, (.int .i64 (.v fun _ => x1) 0 1048576))], [some ⟨50, 2, false, (.sym (.v fun _ => n) fun e => [(.int .i64 (.v fun _ => (X (e.den))) (-9223372036854775808) 9223372036854775807), (.int .i64 (.v fun _ => (Y (e.den))) (-9223372036854775808) 9223372036854775807)])⟩], 1⟩) (fun x1 => (0 ≤ x1 ∧ x1 ≤ n) ∧ ∀ i, 0 ≤ i → i < x1 → okP (X (i)) (Y (i)) = true) (fun x1 => (n - x1).toNat) fun x1 => (.ite (.need (.need (.call (c_s_validPoint ((X (x1))) ((Y (x1)))) (.ite (.out .ret) (.next [0]))))) (.out .ret)))) (G := (0 ≤ n ∧ n ≤ 1048576) → (∀ e8 : E, ((0 ≤ e8.den ∧ e8.den < n) → (((-9223372036854775808) ≤ ((X (e8.den))) ∧ ((X (e8.den))) ≤ 9223372036854775807) ∧ ((-9223372036854775808) ≤ ((Y (e8.den))) ∧ ((Y (e8.den))) ≤ 9223372036854775807)))) → ((∃ y2 : Int, (((0 ≤ y2 ∧ y2 ≤ n) ∧ ∀ i, 0 ≤ i → i < y2 → okP (X (i)) (Y (i)) = true) ∧ (((n = n) ∧ ((0 : Int) = y2)) ∧ ((n ≤ n) ∧ (∀ e3 : E, ((0 ≤ e3.den ∧ e3.den < n) → ((((X (e3.den))) = ((X (e3.den)))) ∧ (((Y (e3.den))) = ((Y (e3.den))))))))))) ∧ (∀ x1 : Int, (((0 ≤ x1 ∧ x1 ≤ n) ∧ ∀ i, 0 ≤ i → i < x1 → okP (X (i)) (Y (i)) = true) → (((x1 < n) → ((((0 ≤ x1) ∧ (x1 < n))) ∧ ((x1 < n) ∧ (((((X (x1))) = ((X (x1)))) ∧ (((Y (x1))) = ((Y (x1))))) ∧ ((((okP ((X (x1))) ((Y (x1)))) = false) → (((listB X Y n) = false) ∧ ((n ≤ n) ∧ (∀ e4 : E, ((0 ≤ e4.den ∧ e4.den < n) → ((((X (e4.den))) = ((X (e4.den)))) ∧ (((Y (e4.den))) = ((Y (e4.den)))))))))) ∧ (((okP ((X (x1))) ((Y (x1)))) = true) → (∃ y5 : Int, (((0 ≤ y5 ∧ y5 ≤ n) ∧ ∀ i, 0 ≤ i → i < y5 → okP (X (i)) (Y (i)) = true) ∧ ((((n = n) ∧ (((x1 + 1) = y5) ∧ ((1 ≤ (x1 + 1) ∧ (x1 + 1) ≤ 1048577) → (0 ≤ y5 ∧ y5 ≤ 1048576)))) ∧ ((n ≤ n) ∧ (∀ e6 : E, ((0 ≤ e6.den ∧ e6.den < n) → ((((X (e6.den))) = ((X (e6.den)))) ∧ (((Y (e6.den))) = ((Y (e6.den))))))))) ∧ ((n - y5).toNat < (n - x1).toNat)))))))))) ∧ ((n ≤ x1) → (((n ≤ 20) ↔ ((listB X Y n) = true)) ∧ ((n ≤ n) ∧ (∀ e7 : E, ((0 ≤ e7.den ∧ e7.den < n) → ((((X (e7.den))) = ((X (e7.den)))) ∧ (((Y (e7.den))) = ((Y (e7.den))))))))))))))) (by kernel_rfl) ?_
  intro h1 h2
  refine ⟨?_, ?_⟩
  · refine ⟨0, ?_⟩
    try dsimp only
    refine ⟨?_, ?_, Int.le_refl _, fun _ => fun _ => ⟨rfl, rfl⟩⟩
    · refine ⟨by omega, fun i a b => ?_⟩; first | (exfalso; omega) | (by_cases e : i = j; (subst e; assumption); exact I1.2 i a (by omega))
    · refine ⟨rfl, ?_⟩
      rfl
  · intro j
    intro I1
    refine ⟨?_, ?_⟩
    · intro c9
      refine ⟨?_, ?_, ⟨rfl, rfl⟩, ?_, ?_⟩
      · omega
      · omega
      · intro c10
        refine ⟨?_, Int.le_refl _, fun _ => fun _ => ⟨rfl, rfl⟩⟩
        simp [listB, allB_false (q := fun i => okP (X i) (Y i)) I1.1.1 (by omega) (by assumption)]
      · intro c11
        refine ⟨j + 1, ?_⟩
        try dsimp only
        refine ⟨?_, ?_, ?_⟩
        · refine ⟨by omega, fun i a b => ?_⟩; first | (exfalso; omega) | (by_cases e : i = j; (subst e; assumption); exact I1.2 i a (by omega))
        · refine ⟨?_, Int.le_refl _, fun _ => fun _ => ⟨rfl, rfl⟩⟩
          refine ⟨rfl, ?_, ?_⟩
          · rfl
          · intro c12
            omega
        · omega
    · intro c13
      refine ⟨?_, Int.le_refl _, fun _ => fun _ => ⟨rfl, rfl⟩⟩
      have e : allB (fun i => okP (X i) (Y i)) n = true := allB_iff.2 fun i a b => I1.2 i a (by omega); simp [listB, e]
def c_s_validPoints_q (X : Int → Int) (Y : Int → Int) (n : Int) : Cn Try.prog := ⟨_, _, _, _, _, s_validPoints_q X Y n⟩
theorem edgesIn1_q (X : Int → Int) (Y : Int → Int) (n : Int) (pA : Int) (pB : Int) : RunsTo Try.prog 111 [(.agg [(.int .i64 (.v fun _ => pA) (-9223372036854775808) 9223372036854775807), (.int .i64 (.v fun _ => pB) (-9223372036854775808) 9223372036854775807)]), (.ptr 0 1 (.lit 0) 0)] [some ⟨27, 1, true, (.lit [[(.sl 1 2 (.lit 0) (.v fun _ => n) 1048576)]])⟩, some ⟨50, 2, false, (.sym (.v fun _ => n) fun e => [(.int .i64 (.v fun _ => (X (e.den))) (-9223372036854775808) 9223372036854775807), (.int .i64 (.v fun _ => (Y (e.den))) (-9223372036854775808) 9223372036854775807)])⟩] (.bool (.v fun _ => !(edB n pA pB))) [some ⟨27, 1, true, (.lit [[(.sl 1 2 (.lit 0) (.v fun _ => n) 1048576)]])⟩, some ⟨50, 2, false, (.sym (.v fun _ => n) fun e => [(.int .i64 (.v fun _ => (X (e.den))) (-9223372036854775808) 9223372036854775807), (.int .i64 (.v fun _ => (Y (e.den))) (-9223372036854775808) 9223372036854775807)])⟩] := by
  refine RunsTo.go env Try.func111 rfl Try.call111 rfl rfl (fun _ _ => (.call (c_i_within pA 0 (n - 1)) (.ite .ret (.call (c_i_within pB 0 (n - 1)) .ret)))) (G := (((-9223372036854775808) ≤ pA ∧ pA ≤ 9223372036854775807) ∧ ((-9223372036854775808) ≤ pB ∧ pB ≤ 9223372036854775807)) → ((0 ≤ n ∧ n ≤ 1048576) ∧ (∀ e3 : E, ((0 ≤ e3.den ∧ e3.den < n) → (((-9223372036854775808) ≤ ((X (e3.den))) ∧ ((X (e3.den))) ≤ 9223372036854775807) ∧ ((-9223372036854775808) ≤ ((Y (e3.den))) ∧ ((Y (e3.den))) ≤ 9223372036854775807))))) → (((pA = pA) ∧ (((0 : Int) = 0) ∧ ((n - 1) = (n - 1)))) ∧ ((((decide (0 ≤ pA) && decide (pA ≤ (n - 1))) = false) → (((!(edB n pA pB)) = true) ∧ ((n = n) ∧ ((n ≤ n) ∧ (∀ e1 : E, ((0 ≤ e1.den ∧ e1.den < n) → ((((X (e1.den))) = ((X (e1.den)))) ∧ (((Y (e1.den))) = ((Y (e1.den))))))))))) ∧ (((decide (0 ≤ pA) && decide (pA ≤ (n - 1))) = true) → (((pB = pB) ∧ (((0 : Int) = 0) ∧ ((n - 1) = (n - 1)))) ∧ ((((decide (0 ≤ pB) && decide (pB ≤ (n - 1))) = false) ↔ ((!(edB n pA pB)) = true)) ∧ ((n = n) ∧ ((n ≤ n) ∧ (∀ e2 : E, ((0 ≤ e2.den ∧ e2.den < n) → ((((X (e2.den))) = ((X (e2.den)))) ∧ (((Y (e2.den))) = ((Y (e2.den))))))))))))))) (by kernel_rfl) ?_
  intro h1 h2
  refine ⟨⟨rfl, ⟨rfl, rfl⟩⟩, ?_, ?_⟩
  · intro c4
    refine ⟨?_, rfl, Int.le_refl _, fun _ => fun _ => ⟨rfl, rfl⟩⟩
    simp_all [edB]; omega
  · intro c5
    refine ⟨⟨rfl, ⟨rfl, rfl⟩⟩, ?_, rfl, Int.le_refl _, fun _ => fun _ => ⟨rfl, rfl⟩⟩
    simp_all [edB]; omega
def c_edgesIn1_q (X : Int → Int) (Y : Int → Int) (n : Int) (pA : Int) (pB : Int) : Cn Try.prog := ⟨_, _, _, _, _, edgesIn1_q X Y n pA pB⟩
theorem IndexFunc_e_q (X : Int → Int) (Y : Int → Int) (n : Int) (A : Int → Int) (B : Int → Int) (m : Int) : RunsTo Try.prog 113 [(.sl 0 2 (.lit 0) (.v fun _ => m) 1048576), (.fn 111 [(.ptr 1 1 (.lit 0) 0)])] [some ⟨58, 2, false, (.sym (.v fun _ => m) fun e => [(.int .i64 (.v fun _ => (A (e.den))) (-9223372036854775808) 9223372036854775807), (.int .i64 (.v fun _ => (B (e.den))) (-9223372036854775808) 9223372036854775807)])⟩, some ⟨27, 1, true, (.lit [[(.sl 2 2 (.lit 0) (.v fun _ => n) 1048576)]])⟩, some ⟨50, 2, false, (.sym (.v fun _ => n) fun e => [(.int .i64 (.v fun _ => (X (e.den))) (-9223372036854775808) 9223372036854775807), (.int .i64 (.v fun _ => (Y (e.den))) (-9223372036854775808) 9223372036854775807)])⟩] (.int .i64 (.v fun _ => fidx (fun i => !(edB n (A (i)) (B (i)))) m) (-1) 1048576) [some ⟨58, 2, false, (.sym (.v fun _ => m) fun e => [(.int .i64 (.v fun _ => (A (e.den))) (-9223372036854775808) 9223372036854775807), (.int .i64 (.v fun _ => (B (e.den))) (-9223372036854775808) 9223372036854775807)])⟩, some ⟨27, 1, true, (.lit [[(.sl 2 2 (.lit 0) (.v fun _ => n) 1048576)]])⟩, some ⟨50, 2, false, (.sym (.v fun _ => n) fun e => [(.int .i64 (.v fun _ => (X (e.den))) (-9223372036854775808) 9223372036854775807), (.int .i64 (.v fun _ => (Y (e.den))) (-9223372036854775808) 9223372036854775807)])⟩] := by
  refine RunsTo.go env Try.func113 rfl Try.call113 rfl rfl (fun _ _ => (.loop [] [0, 1, 2] (Int) (fun x1 => ⟨spl 19 0 [(0, (.sl 0 2 (.lit 0) (.v fun _ => m) 1048576)), (1, (.fn 111 [(.ptr 1 1 (.lit 0) 0)])), (7, (.int .i64 (.v fun _ => m) 0 1048576)), (8, (.int .i64 (.v fun _ => x1) 0 1048576))], [some ⟨58, 2, false, (.sym (.v fun _ => m) fun e => [(.int .i64 (.v fun _ => (A (e.den))) (-9223372036854775808) 9223372036854775807), (.int .i64 (.v fun _ => (B (e.den))) (-9223372036854775808) 9223372036854775807)])⟩, some ⟨27, 1, true, (.lit [[(.sl 2 2 (.lit 0) (.v fun _ => n) 1048576)]])⟩, some ⟨50, 2, false, (.sym (.v fun _ => n) fun e => [(.int .i64 (.v fun _ => (X (e.den))) (-9223372036854775808) 9223372036854775807), (.int .i64 (.v fun _ => (Y (e.den))) (-9223372036854775808) 9223372036854775807)])⟩], 3⟩) (fun x1 => (0 ≤ x1 ∧ x1 ≤ m) ∧ ∀ i, 0 ≤ i → i < x1 → (!(edB n (A (i)) (B (i)))) = false) (fun x1 => (m - x1).toNat) fun x1 => (.ite (.need (.need (.call (c_edgesIn1_q X Y n ((A (x1))) ((B (x1)))) (.ite (.out .ret) (.next [0, 1, 2]))))) (.out .ret)))) (G := (0 ≤ m ∧ m ≤ 1048576) → ((∀ e14 : E, ((0 ≤ e14.den ∧ e14.den < m) → (((-9223372036854775808) ≤ ((A (e14.den))) ∧ ((A (e14.den))) ≤ 9223372036854775807) ∧ ((-9223372036854775808) ≤ ((B (e14.den))) ∧ ((B (e14.den))) ≤ 9223372036854775807)))) ∧ ((0 ≤ n ∧ n ≤ 1048576) ∧ (∀ e13 : E, ((0 ≤ e13.den ∧ e13.den < n) → (((-9223372036854775808) ≤ ((X (e13.den))) ∧ ((X (e13.den))) ≤ 9223372036854775807) ∧ ((-9223372036854775808) ≤ ((Y (e13.den))) ∧ ((Y (e13.den))) ≤ 9223372036854775807)))))) → ((∃ y2 : Int, (((0 ≤ y2 ∧ y2 ≤ m) ∧ ∀ i, 0 ≤ i → i < y2 → (!(edB n (A (i)) (B (i)))) = false) ∧ (((m = m) ∧ ((m = m) ∧ ((0 : Int) = y2))) ∧ (((m ≤ m) ∧ (∀ e4 : E, ((0 ≤ e4.den ∧ e4.den < m) → ((((A (e4.den))) = ((A (e4.den)))) ∧ (((B (e4.den))) = ((B (e4.den)))))))) ∧ ((n = n) ∧ ((n ≤ n) ∧ (∀ e3 : E, ((0 ≤ e3.den ∧ e3.den < n) → ((((X (e3.den))) = ((X (e3.den)))) ∧ (((Y (e3.den))) = ((Y (e3.den))))))))))))) ∧ (∀ x1 : Int, (((0 ≤ x1 ∧ x1 ≤ m) ∧ ∀ i, 0 ≤ i → i < x1 → (!(edB n (A (i)) (B (i)))) = false) → (((x1 < m) → ((((0 ≤ x1) ∧ (x1 < m))) ∧ ((x1 < m) ∧ (((((A (x1))) = ((A (x1)))) ∧ (((B (x1))) = ((B (x1))))) ∧ (((n = n) ∧ ((n ≤ n) ∧ (∀ e5 : E, ((0 ≤ e5.den ∧ e5.den < n) → ((((X (e5.den))) = ((X (e5.den)))) ∧ (((Y (e5.den))) = ((Y (e5.den))))))))) ∧ ((((!(edB n ((A (x1))) ((B (x1))))) = true) → ((x1 = (fidx (fun i => !(edB n (A (i)) (B (i)))) m)) ∧ (((m ≤ m) ∧ (∀ e7 : E, ((0 ≤ e7.den ∧ e7.den < m) → ((((A (e7.den))) = ((A (e7.den)))) ∧ (((B (e7.den))) = ((B (e7.den)))))))) ∧ ((n = n) ∧ ((n ≤ n) ∧ (∀ e6 : E, ((0 ≤ e6.den ∧ e6.den < n) → ((((X (e6.den))) = ((X (e6.den)))) ∧ (((Y (e6.den))) = ((Y (e6.den)))))))))))) ∧ (((!(edB n ((A (x1))) ((B (x1))))) = false) → (∃ y8 : Int, (((0 ≤ y8 ∧ y8 ≤ m) ∧ ∀ i, 0 ≤ i → i < y8 → (!(edB n (A (i)) (B (i)))) = false) ∧ ((((m = m) ∧ ((m = m) ∧ (((x1 + 1) = y8) ∧ ((1 ≤ (x1 + 1) ∧ (x1 + 1) ≤ 1048577) → (0 ≤ y8 ∧ y8 ≤ 1048576))))) ∧ (((m ≤ m) ∧ (∀ e10 : E, ((0 ≤ e10.den ∧ e10.den < m) → ((((A (e10.den))) = ((A (e10.den)))) ∧ (((B (e10.den))) = ((B (e10.den)))))))) ∧ ((n = n) ∧ ((n ≤ n) ∧ (∀ e9 : E, ((0 ≤ e9.den ∧ e9.den < n) → ((((X (e9.den))) = ((X (e9.den)))) ∧ (((Y (e9.den))) = ((Y (e9.den))))))))))) ∧ ((m - y8).toNat < (m - x1).toNat))))))))))) ∧ ((m ≤ x1) → ((((-1) : Int) = (fidx (fun i => !(edB n (A (i)) (B (i)))) m)) ∧ (((m ≤ m) ∧ (∀ e12 : E, ((0 ≤ e12.den ∧ e12.den < m) → ((((A (e12.den))) = ((A (e12.den)))) ∧ (((B (e12.den))) = ((B (e12.den)))))))) ∧ ((n = n) ∧ ((n ≤ n) ∧ (∀ e11 : E, ((0 ≤ e11.den ∧ e11.den < n) → ((((X (e11.den))) = ((X (e11.den)))) ∧ (((Y (e11.den))) = ((Y (e11.den))))))))))))))))) (by kernel_rfl) ?_
  intro h1 h2
  have hb := fidx_bd (fun i => !(edB n (A (i)) (B (i)))) h1.1
  refine ⟨?_, ?_⟩
  · refine ⟨0, ?_⟩
    try dsimp only
    refine ⟨?_, ?_, ⟨Int.le_refl _, fun _ => fun _ => ⟨rfl, rfl⟩⟩, rfl, Int.le_refl _, fun _ => fun _ => ⟨rfl, rfl⟩⟩
    · exact ⟨by omega, fun i a b => by omega⟩
    · refine ⟨rfl, rfl, ?_⟩
      rfl
  · intro j
    intro I1
    refine ⟨?_, ?_⟩
    · intro c15
      refine ⟨?_, ?_, ⟨rfl, rfl⟩, ⟨rfl, ⟨Int.le_refl _, fun _ => fun _ => ⟨rfl, rfl⟩⟩⟩, ?_, ?_⟩
      · omega
      · omega
      · intro c16
        refine ⟨?_, ⟨Int.le_refl _, fun _ => fun _ => ⟨rfl, rfl⟩⟩, rfl, Int.le_refl _, fun _ => fun _ => ⟨rfl, rfl⟩⟩
        exact (fidx_found I1.1.1 (by omega) (by assumption) I1.2).symm
      · intro c17
        refine ⟨j + 1, ?_⟩
        try dsimp only
        refine ⟨?_, ?_, ?_⟩
        · refine ⟨by omega, fun i a b => ?_⟩; by_cases e : i = j; (subst e; assumption); exact I1.2 i a (by omega)
        · refine ⟨?_, ⟨Int.le_refl _, fun _ => fun _ => ⟨rfl, rfl⟩⟩, rfl, Int.le_refl _, fun _ => fun _ => ⟨rfl, rfl⟩⟩
          refine ⟨rfl, rfl, ?_, ?_⟩
          · rfl
          · intro c18
            omega
        · omega
    · intro c19
      refine ⟨?_, ⟨Int.le_refl _, fun _ => fun _ => ⟨rfl, rfl⟩⟩, rfl, Int.le_refl _, fun _ => fun _ => ⟨rfl, rfl⟩⟩
      exact (fidx_none fun i a b => I1.2 i a (by omega)).symm
def c_IndexFunc_e_q (X : Int → Int) (Y : Int → Int) (n : Int) (A : Int → Int) (B : Int → Int) (m : Int) : Cn Try.prog := ⟨_, _, _, _, _, IndexFunc_e_q X Y n A B m⟩
theorem ContainsFunc_e_q (X : Int → Int) (Y : Int → Int) (n : Int) (A : Int → Int) (B : Int → Int) (m : Int) : RunsTo Try.prog 57 [(.sl 0 2 (.lit 0) (.v fun _ => m) 1048576), (.fn 111 [(.ptr 1 1 (.lit 0) 0)])] [some ⟨58, 2, false, (.sym (.v fun _ => m) fun e => [(.int .i64 (.v fun _ => (A (e.den))) (-9223372036854775808) 9223372036854775807), (.int .i64 (.v fun _ => (B (e.den))) (-9223372036854775808) 9223372036854775807)])⟩, some ⟨27, 1, true, (.lit [[(.sl 2 2 (.lit 0) (.v fun _ => n) 1048576)]])⟩, some ⟨50, 2, false, (.sym (.v fun _ => n) fun e => [(.int .i64 (.v fun _ => (X (e.den))) (-9223372036854775808) 9223372036854775807), (.int .i64 (.v fun _ => (Y (e.den))) (-9223372036854775808) 9223372036854775807)])⟩] (.bool (.v fun _ => decide (0 ≤ fidx (fun i => !(edB n (A (i)) (B (i)))) m))) [some ⟨58, 2, false, (.sym (.v fun _ => m) fun e => [(.int .i64 (.v fun _ => (A (e.den))) (-9223372036854775808) 9223372036854775807), (.int .i64 (.v fun _ => (B (e.den))) (-9223372036854775808) 9223372036854775807)])⟩, some ⟨27, 1, true, (.lit [[(.sl 2 2 (.lit 0) (.v fun _ => n) 1048576)]])⟩, some ⟨50, 2, false, (.sym (.v fun _ => n) fun e => [(.int .i64 (.v fun _ => (X (e.den))) (-9223372036854775808) 9223372036854775807), (.int .i64 (.v fun _ => (Y (e.den))) (-9223372036854775808) 9223372036854775807)])⟩] := by
  refine RunsTo.go env Try.func57 rfl Try.call57 rfl rfl (fun _ _ => (.call (c_IndexFunc_e_q X Y n A B m) .ret)) (G := (0 ≤ m ∧ m ≤ 1048576) → ((∀ e6 : E, ((0 ≤ e6.den ∧ e6.den < m) → (((-9223372036854775808) ≤ ((A (e6.den))) ∧ ((A (e6.den))) ≤ 9223372036854775807) ∧ ((-9223372036854775808) ≤ ((B (e6.den))) ∧ ((B (e6.den))) ≤ 9223372036854775807)))) ∧ ((0 ≤ n ∧ n ≤ 1048576) ∧ (∀ e5 : E, ((0 ≤ e5.den ∧ e5.den < n) → (((-9223372036854775808) ≤ ((X (e5.den))) ∧ ((X (e5.den))) ≤ 9223372036854775807) ∧ ((-9223372036854775808) ≤ ((Y (e5.den))) ∧ ((Y (e5.den))) ≤ 9223372036854775807)))))) → ((m = m) ∧ ((((m ≤ m) ∧ (∀ e2 : E, ((0 ≤ e2.den ∧ e2.den < m) → ((((A (e2.den))) = ((A (e2.den)))) ∧ (((B (e2.den))) = ((B (e2.den)))))))) ∧ ((n = n) ∧ ((n ≤ n) ∧ (∀ e1 : E, ((0 ≤ e1.den ∧ e1.den < n) → ((((X (e1.den))) = ((X (e1.den)))) ∧ (((Y (e1.den))) = ((Y (e1.den)))))))))) ∧ (((0 ≤ (fidx (fun i => !(edB n ((A (i))) ((B (i))))) m)) ↔ ((decide (0 ≤ fidx (fun i => !(edB n (A (i)) (B (i)))) m)) = true)) ∧ (((m ≤ m) ∧ (∀ e4 : E, ((0 ≤ e4.den ∧ e4.den < m) → ((((A (e4.den))) = ((A (e4.den)))) ∧ (((B (e4.den))) = ((B (e4.den)))))))) ∧ ((n = n) ∧ ((n ≤ n) ∧ (∀ e3 : E, ((0 ≤ e3.den ∧ e3.den < n) → ((((X (e3.den))) = ((X (e3.den)))) ∧ (((Y (e3.den))) = ((Y (e3.den)))))))))))))) (by kernel_rfl) ?_
  intro h1 h2
  refine ⟨rfl, ⟨⟨Int.le_refl _, fun _ => fun _ => ⟨rfl, rfl⟩⟩, ⟨rfl, ⟨Int.le_refl _, fun _ => fun _ => ⟨rfl, rfl⟩⟩⟩⟩, ?_, ⟨Int.le_refl _, fun _ => fun _ => ⟨rfl, rfl⟩⟩, rfl, Int.le_refl _, fun _ => fun _ => ⟨rfl, rfl⟩⟩
  -- 1: (0 ≤ (fidx (fun i => !(edB n ((A (i))) ((B (i))))) m)) ↔ ((decide (0 ≤ fidx (fun i => !(edB n (A (i)
  simp
def c_ContainsFunc_e_q (X : Int → Int) (Y : Int → Int) (n : Int) (A : Int → Int) (B : Int → Int) (m : Int) : Cn Try.prog := ⟨_, _, _, _, _, ContainsFunc_e_q X Y n A B m⟩
theorem i_edgesIn_q (X : Int → Int) (Y : Int → Int) (n : Int) (A : Int → Int) (B : Int → Int) (m : Int) : RunsTo Try.prog 56 [(.sl 0 2 (.lit 0) (.v fun _ => n) 1048576), (.sl 1 2 (.lit 0) (.v fun _ => m) 1048576)] [some ⟨50, 2, false, (.sym (.v fun _ => n) fun e => [(.int .i64 (.v fun _ => (X (e.den))) (-9223372036854775808) 9223372036854775807), (.int .i64 (.v fun _ => (Y (e.den))) (-9223372036854775808) 9223372036854775807)])⟩, some ⟨58, 2, false, (.sym (.v fun _ => m) fun e => [(.int .i64 (.v fun _ => (A (e.den))) (-9223372036854775808) 9223372036854775807), (.int .i64 (.v fun _ => (B (e.den))) (-9223372036854775808) 9223372036854775807)])⟩] (.bool (.v fun _ => edOK X Y n A B m)) [some ⟨50, 2, false, (.sym (.v fun _ => n) fun e => [(.int .i64 (.v fun _ => (X (e.den))) (-9223372036854775808) 9223372036854775807), (.int .i64 (.v fun _ => (Y (e.den))) (-9223372036854775808) 9223372036854775807)])⟩, some ⟨58, 2, false, (.sym (.v fun _ => m) fun e => [(.int .i64 (.v fun _ => (A (e.den))) (-9223372036854775808) 9223372036854775807), (.int .i64 (.v fun _ => (B (e.den))) (-9223372036854775808) 9223372036854775807)])⟩] := by
  refine RunsTo.go env Try.func56 rfl Try.call56 rfl rfl (fun _ _ => (.call (c_i_listOk_q X Y n) (.ite (.call (c_ContainsFunc_e_q X Y n A B m) .ret) .ret))) (G := ((0 ≤ n ∧ n ≤ 1048576) ∧ (0 ≤ m ∧ m ≤ 1048576)) → ((∀ e9 : E, ((0 ≤ e9.den ∧ e9.den < n) → (((-9223372036854775808) ≤ ((X (e9.den))) ∧ ((X (e9.den))) ≤ 9223372036854775807) ∧ ((-9223372036854775808) ≤ ((Y (e9.den))) ∧ ((Y (e9.den))) ≤ 9223372036854775807)))) ∧ (∀ e8 : E, ((0 ≤ e8.den ∧ e8.den < m) → (((-9223372036854775808) ≤ ((A (e8.den))) ∧ ((A (e8.den))) ≤ 9223372036854775807) ∧ ((-9223372036854775808) ≤ ((B (e8.den))) ∧ ((B (e8.den))) ≤ 9223372036854775807))))) → ((n = n) ∧ (((n ≤ n) ∧ (∀ e1 : E, ((0 ≤ e1.den ∧ e1.den < n) → ((((X (e1.den))) = ((X (e1.den)))) ∧ (((Y (e1.den))) = ((Y (e1.den)))))))) ∧ ((((listB X Y n) = true) → ((m = m) ∧ ((((m ≤ m) ∧ (∀ e3 : E, ((0 ≤ e3.den ∧ e3.den < m) → ((((A (e3.den))) = ((A (e3.den)))) ∧ (((B (e3.den))) = ((B (e3.den)))))))) ∧ ((n = n) ∧ ((n ≤ n) ∧ (∀ e2 : E, ((0 ≤ e2.den ∧ e2.den < n) → ((((X (e2.den))) = ((X (e2.den)))) ∧ (((Y (e2.den))) = ((Y (e2.den)))))))))) ∧ ((((decide (0 ≤ fidx (fun i => !(edB n ((A (i))) ((B (i))))) m)) = false) ↔ ((edOK X Y n A B m) = true)) ∧ (((n ≤ n) ∧ (∀ e5 : E, ((0 ≤ e5.den ∧ e5.den < n) → ((((X (e5.den))) = ((X (e5.den)))) ∧ (((Y (e5.den))) = ((Y (e5.den)))))))) ∧ ((m ≤ m) ∧ (∀ e4 : E, ((0 ≤ e4.den ∧ e4.den < m) → ((((A (e4.den))) = ((A (e4.den)))) ∧ (((B (e4.den))) = ((B (e4.den))))))))))))) ∧ (((listB X Y n) = false) → (((edOK X Y n A B m) = false) ∧ (((n ≤ n) ∧ (∀ e7 : E, ((0 ≤ e7.den ∧ e7.den < n) → ((((X (e7.den))) = ((X (e7.den)))) ∧ (((Y (e7.den))) = ((Y (e7.den)))))))) ∧ ((m ≤ m) ∧ (∀ e6 : E, ((0 ≤ e6.den ∧ e6.den < m) → ((((A (e6.den))) = ((A (e6.den)))) ∧ (((B (e6.den))) = ((B (e6.den))))))))))))))) (by kernel_rfl) ?_
  intro h1 h2
  refine ⟨rfl, ⟨Int.le_refl _, fun _ => fun _ => ⟨rfl, rfl⟩⟩, ?_, ?_⟩
  · intro c10
    refine ⟨rfl, ⟨⟨Int.le_refl _, fun _ => fun _ => ⟨rfl, rfl⟩⟩, ⟨rfl, ⟨Int.le_refl _, fun _ => fun _ => ⟨rfl, rfl⟩⟩⟩⟩, ?_, ⟨Int.le_refl _, fun _ => fun _ => ⟨rfl, rfl⟩⟩, Int.le_refl _, fun _ => fun _ => ⟨rfl, rfl⟩⟩
    have hf := fidx_neg (q := fun i => edB n (A i) (B i)) (n := m); simp [edOK, *]; done
  · intro c11
    refine ⟨?_, ⟨Int.le_refl _, fun _ => fun _ => ⟨rfl, rfl⟩⟩, Int.le_refl _, fun _ => fun _ => ⟨rfl, rfl⟩⟩
    simp [edOK, *]; done
def c_i_edgesIn_q (X : Int → Int) (Y : Int → Int) (n : Int) (A : Int → Int) (B : Int → Int) (m : Int) : Cn Try.prog := ⟨_, _, _, _, _, i_edgesIn_q X Y n A B m⟩
theorem i_TotalLength_q (X : Int → Int) (Y : Int → Int) (n : Int) (A : Int → Int) (B : Int → Int) (m : Int) : RunsTo Try.prog 39 [(.sl 0 2 (.lit 0) (.v fun _ => n) 1048576), (.sl 1 2 (.lit 0) (.v fun _ => m) 1048576)] [some ⟨50, 2, false, (.sym (.v fun _ => n) fun e => [(.int .i64 (.v fun _ => (X (e.den))) (-9223372036854775808) 9223372036854775807), (.int .i64 (.v fun _ => (Y (e.den))) (-9223372036854775808) 9223372036854775807)])⟩, some ⟨58, 2, false, (.sym (.v fun _ => m) fun e => [(.int .i64 (.v fun _ => (A (e.den))) (-9223372036854775808) 9223372036854775807), (.int .i64 (.v fun _ => (B (e.den))) (-9223372036854775808) 9223372036854775807)])⟩] (.int .i64 (.v fun _ => tlen X Y n A B m) (-1) 100000) [some ⟨50, 2, false, (.sym (.v fun _ => n) fun e => [(.int .i64 (.v fun _ => (X (e.den))) (-9223372036854775808) 9223372036854775807), (.int .i64 (.v fun _ => (Y (e.den))) (-9223372036854775808) 9223372036854775807)])⟩, some ⟨58, 2, false, (.sym (.v fun _ => m) fun e => [(.int .i64 (.v fun _ => (A (e.den))) (-9223372036854775808) 9223372036854775807), (.int .i64 (.v fun _ => (B (e.den))) (-9223372036854775808) 9223372036854775807)])⟩] := by
  refine RunsTo.go env Try.func39 rfl Try.call39 rfl rfl (fun _ _ => (.call (c_i_edgesIn_q X Y n A B m) (.ite .ret (.ite .ret (.loop [] [0, 1] (Int) (fun x7 => ⟨spl 38 0 [(0, (.sl 0 2 (.lit 0) (.v fun _ => n) 1048576)), (4, (.int .i64 (.lit 0) 0 0)), (5, (.int .i64 (.v fun _ => sumI (lnF X Y A B) x7.toNat) 0 100000)), (17, (.sl 1 2 (.lit 0) (.v fun _ => m) 1048576)), (18, (.int .i64 (.v fun _ => m) 0 1048576)), (19, (.int .i64 (.v fun _ => x7) 0 1048576))], [some ⟨50, 2, false, (.sym (.v fun _ => n) fun e => [(.int .i64 (.v fun _ => ((X (e.den)))) (-9223372036854775808) 9223372036854775807), (.int .i64 (.v fun _ => ((Y (e.den)))) (-9223372036854775808) 9223372036854775807)])⟩, some ⟨58, 2, false, (.sym (.v fun _ => m) fun e => [(.int .i64 (.v fun _ => ((A (e.den)))) (-9223372036854775808) 9223372036854775807), (.int .i64 (.v fun _ => ((B (e.den)))) (-9223372036854775808) 9223372036854775807)])⟩], 2⟩) (fun x7 => 0 ≤ x7 ∧ x7 ≤ m) (fun x7 => (m - x7).toNat) fun x7 => (.ite (.need (.need (.need (.need (.need (.need (.call (c_i_length (((X (((A (x7))))))) (((Y (((A (x7))))))) (((X (((B (x7))))))) (((Y (((B (x7)))))))) (.next [0, 1])))))))) (.out .ret))))))) (G := ((0 ≤ n ∧ n ≤ 1048576) ∧ (0 ≤ m ∧ m ≤ 1048576)) → ((∀ e17 : E, ((0 ≤ e17.den ∧ e17.den < n) → (((-9223372036854775808) ≤ ((X (e17.den))) ∧ ((X (e17.den))) ≤ 9223372036854775807) ∧ ((-9223372036854775808) ≤ ((Y (e17.den))) ∧ ((Y (e17.den))) ≤ 9223372036854775807)))) ∧ (∀ e16 : E, ((0 ≤ e16.den ∧ e16.den < m) → (((-9223372036854775808) ≤ ((A (e16.den))) ∧ ((A (e16.den))) ≤ 9223372036854775807) ∧ ((-9223372036854775808) ≤ ((B (e16.den))) ∧ ((B (e16.den))) ≤ 9223372036854775807))))) → (((n = n) ∧ (m = m)) ∧ ((((n ≤ n) ∧ (∀ e2 : E, ((0 ≤ e2.den ∧ e2.den < n) → ((((X (e2.den))) = ((X (e2.den)))) ∧ (((Y (e2.den))) = ((Y (e2.den)))))))) ∧ ((m ≤ m) ∧ (∀ e1 : E, ((0 ≤ e1.den ∧ e1.den < m) → ((((A (e1.den))) = ((A (e1.den)))) ∧ (((B (e1.den))) = ((B (e1.den))))))))) ∧ ((((edOK X Y n A B m) = false) → ((((-1) : Int) = (tlen X Y n A B m)) ∧ (((n ≤ n) ∧ (∀ e4 : E, ((0 ≤ e4.den ∧ e4.den < n) → ((((X (e4.den))) = ((X (e4.den)))) ∧ (((Y (e4.den))) = ((Y (e4.den)))))))) ∧ ((m ≤ m) ∧ (∀ e3 : E, ((0 ≤ e3.den ∧ e3.den < m) → ((((A (e3.den))) = ((A (e3.den)))) ∧ (((B (e3.den))) = ((B (e3.den))))))))))) ∧ (((edOK X Y n A B m) = true) → (((20 < m) → ((((-1) : Int) = (tlen X Y n A B m)) ∧ (((n ≤ n) ∧ (∀ e6 : E, ((0 ≤ e6.den ∧ e6.den < n) → ((((X (e6.den))) = ((X (e6.den)))) ∧ (((Y (e6.den))) = ((Y (e6.den)))))))) ∧ ((m ≤ m) ∧ (∀ e5 : E, ((0 ≤ e5.den ∧ e5.den < m) → ((((A (e5.den))) = ((A (e5.den)))) ∧ (((B (e5.den))) = ((B (e5.den))))))))))) ∧ ((m ≤ 20) → ((∃ y8 : Int, ((0 ≤ y8 ∧ y8 ≤ m) ∧ (((n = n) ∧ (((0 : Int) = (sumI (lnF X Y A B) y8.toNat)) ∧ ((m = m) ∧ ((m = m) ∧ ((0 : Int) = y8))))) ∧ (((n ≤ n) ∧ (∀ e10 : E, ((0 ≤ e10.den ∧ e10.den < n) → ((((X (e10.den))) = ((X (e10.den)))) ∧ (((Y (e10.den))) = ((Y (e10.den)))))))) ∧ ((m ≤ m) ∧ (∀ e9 : E, ((0 ≤ e9.den ∧ e9.den < m) → ((((A (e9.den))) = ((A (e9.den)))) ∧ (((B (e9.den))) = ((B (e9.den)))))))))))) ∧ (∀ x7 : Int, ((0 ≤ x7 ∧ x7 ≤ m) → (((x7 < m) → ((((0 ≤ x7) ∧ (x7 < m))) ∧ ((x7 < m) ∧ ((((0 ≤ ((A (x7)))) ∧ (((A (x7))) < n))) ∧ ((((A (x7))) < n) ∧ ((((0 ≤ ((B (x7)))) ∧ (((B (x7))) < n))) ∧ ((((B (x7))) < n) ∧ ((((((((X (((A (x7))))))) = ((((X (((A (x7))))))))) ∧ (((-9223372036854775808) ≤ (((X (((A (x7))))))) ∧ (((X (((A (x7))))))) ≤ 9223372036854775807) → ((-1000) ≤ ((((X (((A (x7)))))))) ∧ ((((X (((A (x7)))))))) ≤ 1000))) ∧ (((((Y (((A (x7))))))) = ((((Y (((A (x7))))))))) ∧ (((-9223372036854775808) ≤ (((Y (((A (x7))))))) ∧ (((Y (((A (x7))))))) ≤ 9223372036854775807) → ((-1000) ≤ ((((Y (((A (x7)))))))) ∧ ((((Y (((A (x7)))))))) ≤ 1000)))) ∧ ((((((X (((B (x7))))))) = ((((X (((B (x7))))))))) ∧ (((-9223372036854775808) ≤ (((X (((B (x7))))))) ∧ (((X (((B (x7))))))) ≤ 9223372036854775807) → ((-1000) ≤ ((((X (((B (x7)))))))) ∧ ((((X (((B (x7)))))))) ≤ 1000))) ∧ (((((Y (((B (x7))))))) = ((((Y (((B (x7))))))))) ∧ (((-9223372036854775808) ≤ (((Y (((B (x7))))))) ∧ (((Y (((B (x7))))))) ≤ 9223372036854775807) → ((-1000) ≤ ((((Y (((B (x7)))))))) ∧ ((((Y (((B (x7)))))))) ≤ 1000))))) ∧ (∃ y11 : Int, ((0 ≤ y11 ∧ y11 ≤ m) ∧ ((((n = n) ∧ (((((sumI (lnF X Y A B) x7.toNat) + (mht (((X (((A (x7))))))) (((Y (((A (x7))))))) (((X (((B (x7))))))) (((Y (((B (x7))))))))) = (sumI (lnF X Y A B) y11.toNat)) ∧ ((0 ≤ ((sumI (lnF X Y A B) x7.toNat) + (mht (((X (((A (x7))))))) (((Y (((A (x7))))))) (((X (((B (x7))))))) (((Y (((B (x7))))))))) ∧ ((sumI (lnF X Y A B) x7.toNat) + (mht (((X (((A (x7))))))) (((Y (((A (x7))))))) (((X (((B (x7))))))) (((Y (((B (x7))))))))) ≤ 104000) → (0 ≤ (sumI (lnF X Y A B) y11.toNat) ∧ (sumI (lnF X Y A B) y11.toNat) ≤ 100000))) ∧ ((m = m) ∧ ((m = m) ∧ (((x7 + 1) = y11) ∧ ((1 ≤ (x7 + 1) ∧ (x7 + 1) ≤ 1048577) → (0 ≤ y11 ∧ y11 ≤ 1048576))))))) ∧ (((n ≤ n) ∧ (∀ e13 : E, ((0 ≤ e13.den ∧ e13.den < n) → ((((X (e13.den))) = ((X (e13.den)))) ∧ (((Y (e13.den))) = ((Y (e13.den)))))))) ∧ ((m ≤ m) ∧ (∀ e12 : E, ((0 ≤ e12.den ∧ e12.den < m) → ((((A (e12.den))) = ((A (e12.den)))) ∧ (((B (e12.den))) = ((B (e12.den)))))))))) ∧ ((m - y11).toNat < (m - x7).toNat)))))))))))) ∧ ((m ≤ x7) → (((sumI (lnF X Y A B) x7.toNat) = (tlen X Y n A B m)) ∧ (((n ≤ n) ∧ (∀ e15 : E, ((0 ≤ e15.den ∧ e15.den < n) → ((((X (e15.den))) = ((X (e15.den)))) ∧ (((Y (e15.den))) = ((Y (e15.den)))))))) ∧ ((m ≤ m) ∧ (∀ e14 : E, ((0 ≤ e14.den ∧ e14.den < m) → ((((A (e14.den))) = ((A (e14.den)))) ∧ (((B (e14.den))) = ((B (e14.den)))))))))))))))))))))) (by kernel_rfl) ?_
  intro h1 h2
  refine ⟨⟨rfl, rfl⟩, ⟨⟨Int.le_refl _, fun _ => fun _ => ⟨rfl, rfl⟩⟩, ⟨Int.le_refl _, fun _ => fun _ => ⟨rfl, rfl⟩⟩⟩, ?_, ?_⟩
  · intro c18
    refine ⟨?_, ⟨Int.le_refl _, fun _ => fun _ => ⟨rfl, rfl⟩⟩, Int.le_refl _, fun _ => fun _ => ⟨rfl, rfl⟩⟩
    simp [tlen, *]; done
  · intro c19
    refine ⟨?_, ?_⟩
    · intro c20
      refine ⟨?_, ⟨Int.le_refl _, fun _ => fun _ => ⟨rfl, rfl⟩⟩, Int.le_refl _, fun _ => fun _ => ⟨rfl, rfl⟩⟩
      simp [tlen, *]; omega
    · intro c21
      refine ⟨?_, ?_⟩
      · refine ⟨0, ?_⟩
        try dsimp only
        refine ⟨?_, ?_, ⟨Int.le_refl _, fun _ => fun _ => ⟨rfl, rfl⟩⟩, Int.le_refl _, fun _ => fun _ => ⟨rfl, rfl⟩⟩
        · omega
        · refine ⟨rfl, ?_, rfl, rfl, ?_⟩
          · rfl
          · rfl
      · intro j
        intro I1
        refine ⟨?_, ?_⟩
        · intro c22
          refine ⟨?_, ?_, ?_, ?_, ?_, ?_, ?_, ?_⟩
          · omega
          · omega
          · have hk := edOK_split (show edOK X Y n A B m = true by assumption); have hj := hk.2 j (by omega) (by omega); have hb := edOK_bd (m := 0) hk.1 hj; have hi := edB_iff.1 hj; omega
          · have hk := edOK_split (show edOK X Y n A B m = true by assumption); have hj := hk.2 j (by omega) (by omega); have hb := edOK_bd (m := 0) hk.1 hj; have hi := edB_iff.1 hj; omega
          · have hk := edOK_split (show edOK X Y n A B m = true by assumption); have hj := hk.2 j (by omega) (by omega); have hb := edOK_bd (m := 0) hk.1 hj; have hi := edB_iff.1 hj; omega
          · have hk := edOK_split (show edOK X Y n A B m = true by assumption); have hj := hk.2 j (by omega) (by omega); have hb := edOK_bd (m := 0) hk.1 hj; have hi := edB_iff.1 hj; omega
          · refine ⟨?_, ?_, rfl, ?_⟩
            · refine ⟨?_, rfl, ?_⟩
              · refine ⟨rfl, ?_⟩
                intro c23
                have hk := edOK_split (show edOK X Y n A B m = true by assumption); have hj := hk.2 j (by omega) (by omega); have hb := edOK_bd (m := 0) hk.1 hj; have hi := edB_iff.1 hj; omega
              · intro c24
                have hk := edOK_split (show edOK X Y n A B m = true by assumption); have hj := hk.2 j (by omega) (by omega); have hb := edOK_bd (m := 0) hk.1 hj; have hi := edB_iff.1 hj; omega
            · refine ⟨rfl, ?_⟩
              intro c25
              have hk := edOK_split (show edOK X Y n A B m = true by assumption); have hj := hk.2 j (by omega) (by omega); have hb := edOK_bd (m := 0) hk.1 hj; have hi := edB_iff.1 hj; omega
            · intro c26
              have hk := edOK_split (show edOK X Y n A B m = true by assumption); have hj := hk.2 j (by omega) (by omega); have hb := edOK_bd (m := 0) hk.1 hj; have hi := edB_iff.1 hj; omega
          · refine ⟨j + 1, ?_⟩
            try dsimp only
            refine ⟨?_, ?_, ?_⟩
            · omega
            · refine ⟨?_, ⟨Int.le_refl _, fun _ => fun _ => ⟨rfl, rfl⟩⟩, Int.le_refl _, fun _ => fun _ => ⟨rfl, rfl⟩⟩
              refine ⟨rfl, ?_, rfl, rfl, ?_, ?_⟩
              · refine ⟨?_, ?_⟩
                · rw [sumI_succ _ I1.1]; rfl
                · intro c27
                  have hk := edOK_split (show edOK X Y n A B m = true by assumption); have hs := sumI_bd (m := m) (F := lnF X Y A B) (fun i a b => lnF_bd hk.1 (hk.2 i a b)) (j + 1).toNat (by omega); omega
              · rfl
              · intro c28
                omega
            · omega
        · intro c29
          refine ⟨?_, ⟨Int.le_refl _, fun _ => fun _ => ⟨rfl, rfl⟩⟩, Int.le_refl _, fun _ => fun _ => ⟨rfl, rfl⟩⟩
          have e : j = m := (by omega); simp [tlen, e, *]; done
def c_i_TotalLength_q (X : Int → Int) (Y : Int → Int) (n : Int) (A : Int → Int) (B : Int → Int) (m : Int) : Cn Try.prog := ⟨_, _, _, _, _, i_TotalLength_q X Y n A B m⟩
theorem i_TotalLength_part (X : Int → Int) (Y : Int → Int) (n : Int) (A : Int → Int) (B : Int → Int) (m : Int) (s : Int) (N : Int) (hp : (s + m : Int) ≤ N) : RunsTo Try.prog 39 [(.sl 0 2 (.lit 0) (.v fun _ => n) 1048576), (.sl 1 2 (.v fun _ => s) (.v fun _ => m) 1048576)] [some ⟨50, 2, true, (.sym (.v fun _ => n) fun e => [(.int .i64 (.v fun _ => (X (e.den))) (-9223372036854775808) 9223372036854775807), (.int .i64 (.v fun _ => (Y (e.den))) (-9223372036854775808) 9223372036854775807)])⟩, some ⟨58, 2, true, (.sym (.v fun _ => N) fun e => [(.int .i64 (.v fun _ => (A (e.den))) (-9223372036854775808) 9223372036854775807), (.int .i64 (.v fun _ => (B (e.den))) (-9223372036854775808) 9223372036854775807)])⟩] (.int .i64 (.v fun _ => tlen X Y n (fun i => A (s + i)) (fun i => B (s + i)) m) (-1) 100000) [some ⟨50, 2, true, (.sym (.v fun _ => n) fun e => [(.int .i64 (.v fun _ => (X (e.den))) (-9223372036854775808) 9223372036854775807), (.int .i64 (.v fun _ => (Y (e.den))) (-9223372036854775808) 9223372036854775807)])⟩, some ⟨58, 2, true, (.sym (.v fun _ => N) fun e => [(.int .i64 (.v fun _ => (A (e.den))) (-9223372036854775808) 9223372036854775807), (.int .i64 (.v fun _ => (B (e.den))) (-9223372036854775808) 9223372036854775807)])⟩] := RunsTo.part2 (i_TotalLength_q X Y n (fun i => A (s + i)) (fun i => B (s + i)) m) (fun _ _ _ h => h) (Int.le_refl _) hp (fun _ _ e vs _ _ h => by rw [Int.zero_add] at h; exact h) (fun _ _ e vs _ _ h => h)
def c_i_TotalLength_part (X : Int → Int) (Y : Int → Int) (n : Int) (A : Int → Int) (B : Int → Int) (m : Int) (s : Int) (N : Int) : CnH Try.prog := ⟨_, _, _, _, _, _, i_TotalLength_part X Y n A B m s N⟩
end Go.Proofs.Ytcfkpdjbjfnnmaa
