/- Orientation, moved points. -/
import Derived.Test.YtcfkpdjbjfnnmaaK2
import Derived.Test.YtcfkpdjbjfnnmaaR3
set_option linter.unusedSimpArgs false
set_option linter.unusedVariables false
set_option maxRecDepth 100000
namespace Go.Proofs.Ytcfkpdjbjfnnmaa
open Go.Sym
theorem allB2 (q : Int → Bool) : allB q 2 = (q 0 && q 1) := by simp [allB, List.range_succ]
theorem allB3 (q : Int → Bool) : allB q 3 = (q 0 && (q 1 && q 2)) := by simp [allB, List.range_succ]
def ornt (aX aY bX bY cX cY : Int) : Int := if okP aX aY && okP bX bY && okP cX cY then sgn (trn aX aY bX bY cX cY) else 2
def crss (aX aY bX bY cX cY : Int) : Int := if okP aX aY && okP bX bY && okP cX cY then trn aX aY bX bY cX cY else 0
def in9 (x y : Int) : Bool := decide (x ≤ 900) && decide (-900 ≤ x) && decide (y ≤ 900) && decide (-900 ≤ y)
theorem in9_iff {x y : Int} : in9 x y = true ↔ x ≤ 900 ∧ -900 ≤ x ∧ y ≤ 900 ∧ -900 ≤ y := by unfold in9; simp [and_assoc]
theorem l_near (X : Int → Int) (Y : Int → Int) (n : Int) : RunsTo Try.prog 43 [(.sl 0 2 (.lit 0) (.v fun _ => n) 1048576)] [some ⟨50, 2, true, (.sym (.v fun _ => n) fun e => [(.int .i64 (.v fun _ => (X (e.den))) (-9223372036854775808) 9223372036854775807), (.int .i64 (.v fun _ => (Y (e.den))) (-9223372036854775808) 9223372036854775807)])⟩] (.bool (.v fun _ => allB (fun i => in9 (X (i)) (Y (i))) n)) [some ⟨50, 2, true, (.sym (.v fun _ => n) fun e => [(.int .i64 (.v fun _ => (X (e.den))) (-9223372036854775808) 9223372036854775807), (.int .i64 (.v fun _ => (Y (e.den))) (-9223372036854775808) 9223372036854775807)])⟩] := by
  refine RunsTo.go env Try.func43 rfl Try.call43 rfl rfl (fun _ _ => (.loop [] [0] (Int) (fun x1 => ⟨spl 40 0 [(0, (.sl 0 2 (.lit 0) (.v fun _ => n) 1048576)), (3, (.int .i64 (.v fun _ => x1) 0 1048576))], [some ⟨50, 2, true, (.sym (.v fun _ => n) fun e => [(.int .i64 (.v fun _ => (X (e.den))) (-9223372036854775808) 9223372036854775807), (.int .i64 (.v fun _ => (Y (e.den))) (-9223372036854775808) 9223372036854775807)])⟩], 1⟩) (fun x1 => (0 ≤ x1 ∧ x1 ≤ n) ∧ ∀ i, 0 ≤ i → i < x1 → in9 (X (i)) (Y (i)) = true) (fun x1 => (n - x1).toNat) fun x1 => (.ite (.need (.need (.ite (.out .ret) (.need (.need (.ite (.out .ret) (.need (.need (.ite (.out .ret) (.need (.need (.ite (.out .ret) (.next [0]))))))))))))) (.out .ret)))) (G := (0 ≤ n ∧ n ≤ 1048576) → (∀ e11 : E, ((0 ≤ e11.den ∧ e11.den < n) → (((-9223372036854775808) ≤ ((X (e11.den))) ∧ ((X (e11.den))) ≤ 9223372036854775807) ∧ ((-9223372036854775808) ≤ ((Y (e11.den))) ∧ ((Y (e11.den))) ≤ 9223372036854775807)))) → ((∃ y2 : Int, (((0 ≤ y2 ∧ y2 ≤ n) ∧ ∀ i, 0 ≤ i → i < y2 → in9 (X (i)) (Y (i)) = true) ∧ (((n = n) ∧ ((0 : Int) = y2)) ∧ ((n ≤ n) ∧ (∀ e3 : E, ((0 ≤ e3.den ∧ e3.den < n) → ((((X (e3.den))) = ((X (e3.den)))) ∧ (((Y (e3.den))) = ((Y (e3.den))))))))))) ∧ (∀ x1 : Int, (((0 ≤ x1 ∧ x1 ≤ n) ∧ ∀ i, 0 ≤ i → i < x1 → in9 (X (i)) (Y (i)) = true) → (((x1 < n) → ((((0 ≤ x1) ∧ (x1 < n))) ∧ ((x1 < n) ∧ (((900 < ((X (x1)))) → (((allB (fun i => in9 (X (i)) (Y (i))) n) = false) ∧ ((n ≤ n) ∧ (∀ e4 : E, ((0 ≤ e4.den ∧ e4.den < n) → ((((X (e4.den))) = ((X (e4.den)))) ∧ (((Y (e4.den))) = ((Y (e4.den)))))))))) ∧ ((((X (x1))) ≤ 900) → ((((0 ≤ x1) ∧ (x1 < n))) ∧ ((x1 < n) ∧ (((((X (x1))) < (-900)) → (((allB (fun i => in9 (X (i)) (Y (i))) n) = false) ∧ ((n ≤ n) ∧ (∀ e5 : E, ((0 ≤ e5.den ∧ e5.den < n) → ((((X (e5.den))) = ((X (e5.den)))) ∧ (((Y (e5.den))) = ((Y (e5.den)))))))))) ∧ (((-900) ≤ ((X (x1)))) → ((((0 ≤ x1) ∧ (x1 < n))) ∧ ((x1 < n) ∧ (((900 < ((Y (x1)))) → (((allB (fun i => in9 (X (i)) (Y (i))) n) = false) ∧ ((n ≤ n) ∧ (∀ e6 : E, ((0 ≤ e6.den ∧ e6.den < n) → ((((X (e6.den))) = ((X (e6.den)))) ∧ (((Y (e6.den))) = ((Y (e6.den)))))))))) ∧ ((((Y (x1))) ≤ 900) → ((((0 ≤ x1) ∧ (x1 < n))) ∧ ((x1 < n) ∧ (((((Y (x1))) < (-900)) → (((allB (fun i => in9 (X (i)) (Y (i))) n) = false) ∧ ((n ≤ n) ∧ (∀ e7 : E, ((0 ≤ e7.den ∧ e7.den < n) → ((((X (e7.den))) = ((X (e7.den)))) ∧ (((Y (e7.den))) = ((Y (e7.den)))))))))) ∧ (((-900) ≤ ((Y (x1)))) → (∃ y8 : Int, (((0 ≤ y8 ∧ y8 ≤ n) ∧ ∀ i, 0 ≤ i → i < y8 → in9 (X (i)) (Y (i)) = true) ∧ ((((n = n) ∧ (((x1 + 1) = y8) ∧ ((1 ≤ (x1 + 1) ∧ (x1 + 1) ≤ 1048577) → (0 ≤ y8 ∧ y8 ≤ 1048576)))) ∧ ((n ≤ n) ∧ (∀ e9 : E, ((0 ≤ e9.den ∧ e9.den < n) → ((((X (e9.den))) = ((X (e9.den)))) ∧ (((Y (e9.den))) = ((Y (e9.den))))))))) ∧ ((n - y8).toNat < (n - x1).toNat))))))))))))))))))))) ∧ ((n ≤ x1) → (((allB (fun i => in9 (X (i)) (Y (i))) n) = true) ∧ ((n ≤ n) ∧ (∀ e10 : E, ((0 ≤ e10.den ∧ e10.den < n) → ((((X (e10.den))) = ((X (e10.den)))) ∧ (((Y (e10.den))) = ((Y (e10.den))))))))))))))) (by kernel_rfl) ?_
  intro h1 h2
  refine ⟨?_, ?_⟩
  · refine ⟨0, ?_⟩
    try dsimp only
    refine ⟨?_, ?_, Int.le_refl _, fun _ => fun _ => ⟨rfl, rfl⟩⟩
    · refine ⟨by omega, fun i a b => ?_⟩; first | (exfalso; omega) | (by_cases e : i = j; (subst e; rw [in9_iff]; omega); exact I1.2 i a (by omega))
    · refine ⟨rfl, ?_⟩
      rfl
  · intro j
    intro I1
    refine ⟨?_, ?_⟩
    · intro c12
      refine ⟨?_, ?_, ?_, ?_⟩
      · omega
      · omega
      · intro c13
        refine ⟨?_, Int.le_refl _, fun _ => fun _ => ⟨rfl, rfl⟩⟩
        rw [allB_false (q := fun i => in9 (X i) (Y i)) I1.1.1 (by omega) (by rw [← Bool.not_eq_true, in9_iff]; omega)]
      · intro c14
        refine ⟨?_, ?_, ?_, ?_⟩
        · omega
        · omega
        · intro c15
          refine ⟨?_, Int.le_refl _, fun _ => fun _ => ⟨rfl, rfl⟩⟩
          rw [allB_false (q := fun i => in9 (X i) (Y i)) I1.1.1 (by omega) (by rw [← Bool.not_eq_true, in9_iff]; omega)]
        · intro c16
          refine ⟨?_, ?_, ?_, ?_⟩
          · omega
          · omega
          · intro c17
            refine ⟨?_, Int.le_refl _, fun _ => fun _ => ⟨rfl, rfl⟩⟩
            rw [allB_false (q := fun i => in9 (X i) (Y i)) I1.1.1 (by omega) (by rw [← Bool.not_eq_true, in9_iff]; omega)]
          · intro c18
            refine ⟨?_, ?_, ?_, ?_⟩
            · omega
            · omega
            · intro c19
              refine ⟨?_, Int.le_refl _, fun _ => fun _ => ⟨rfl, rfl⟩⟩
              rw [allB_false (q := fun i => in9 (X i) (Y i)) I1.1.1 (by omega) (by rw [← Bool.not_eq_true, in9_iff]; omega)]
            · intro c20
              refine ⟨j + 1, ?_⟩
              try dsimp only
              refine ⟨?_, ?_, ?_⟩
              · refine ⟨by omega, fun i a b => ?_⟩; first | (exfalso; omega) | (by_cases e : i = j; (subst e; rw [in9_iff]; omega); exact I1.2 i a (by omega))
              · refine ⟨?_, Int.le_refl _, fun _ => fun _ => ⟨rfl, rfl⟩⟩
                refine ⟨rfl, ?_, ?_⟩
                · rfl
                · intro c21
                  omega
              · omega
    · intro c22
      refine ⟨?_, Int.le_refl _, fun _ => fun _ => ⟨rfl, rfl⟩⟩
      exact allB_iff.2 fun i a b => I1.2 i a (by omega)
def c_l_near (X : Int → Int) (Y : Int → Int) (n : Int) : Cn Try.prog := ⟨_, _, _, _, _, l_near X Y n⟩
theorem l_moved (X : Int → Int) (Y : Int → Int) (n : Int) (dx : Int) (dY : Int) : RunsTo Try.prog 44 [(.sl 0 2 (.lit 0) (.v fun _ => n) 64), (.int .i64 (.v fun _ => dx) (-1000) 1000), (.int .i64 (.v fun _ => dY) (-1000) 1000)] [some ⟨50, 2, true, (.sym (.v fun _ => n) fun e => [(.int .i64 (.v fun _ => (X (e.den))) (-2000) 2000), (.int .i64 (.v fun _ => (Y (e.den))) (-2000) 2000)])⟩] (.sl 1 2 (.lit 0) (.v fun _ => n) 64) [some ⟨50, 2, true, (.sym (.v fun _ => n) fun e => [(.int .i64 (.v fun _ => (X (e.den))) (-2000) 2000), (.int .i64 (.v fun _ => (Y (e.den))) (-2000) 2000)])⟩, some ⟨50, 2, true, (.sym (.v fun _ => n) fun e => [(.int .i64 (.v fun _ => (X (e.den)) + dx) (-3000) 3000), (.int .i64 (.v fun _ => (Y (e.den)) + dY) (-3000) 3000)])⟩] := by
  refine RunsTo.go env Try.func44 rfl Try.call44 rfl rfl (fun _ _ => (.loop [] [0, 1] (Int) (fun x1 => ⟨spl 35 0 [(0, (.sl 0 2 (.lit 0) (.v fun _ => n) 64)), (1, (.int .i64 (.v fun _ => dx) (-1000) 1000)), (2, (.int .i64 (.v fun _ => dY) (-1000) 1000)), (6, (.raw (.slice none 0 0))), (7, (.sl 1 2 (.lit 0) (.v fun _ => x1) 64)), (8, (.int .i64 (.v fun _ => x1) 0 64))], [some ⟨50, 2, true, (.sym (.v fun _ => n) fun e => [(.int .i64 (.v fun _ => (X (e.den))) (-2000) 2000), (.int .i64 (.v fun _ => (Y (e.den))) (-2000) 2000)])⟩, some ⟨50, 2, true, (.sym (.v fun _ => x1) fun e => [(.int .i64 (.v fun _ => (X ((e.den))) + dx) (-3000) 3000), (.int .i64 (.v fun _ => (Y ((e.den))) + dY) (-3000) 3000)])⟩], 1⟩) (fun x1 => 0 ≤ x1 ∧ x1 ≤ n) (fun x1 => (n - x1).toNat) fun x1 => (.ite (.need (.need (.need (.need (.need (.next [0, 1])))))) (.out .ret)))) (G := ((0 ≤ n ∧ n ≤ 64) ∧ (((-1000) ≤ dx ∧ dx ≤ 1000) ∧ ((-1000) ≤ dY ∧ dY ≤ 1000))) → (∀ e10 : E, ((0 ≤ e10.den ∧ e10.den < n) → (((-2000) ≤ ((X (e10.den))) ∧ ((X (e10.den))) ≤ 2000) ∧ ((-2000) ≤ ((Y (e10.den))) ∧ ((Y (e10.den))) ≤ 2000)))) → ((∃ y2 : Int, ((0 ≤ y2 ∧ y2 ≤ n) ∧ (((n = n) ∧ ((dx = dx) ∧ ((dY = dY) ∧ ((((.slice none 0 0) : Value) = (.slice none 0 0)) ∧ (((0 : Int) = y2) ∧ ((0 : Int) = y2)))))) ∧ (((n ≤ n) ∧ (∀ e3 : E, ((0 ≤ e3.den ∧ e3.den < n) → ((((X (e3.den))) = ((X (e3.den)))) ∧ (((Y (e3.den))) = ((Y (e3.den)))))))) ∧ (y2 = 0))))) ∧ (∀ x1 : Int, ((0 ≤ x1 ∧ x1 ≤ n) → (((x1 < n) → ((((0 ≤ x1) ∧ (x1 < n))) ∧ ((x1 < n) ∧ ((((0 ≤ x1) ∧ (x1 < n))) ∧ ((x1 < n) ∧ ((x1 = x1) ∧ (∃ y4 : Int, ((0 ≤ y4 ∧ y4 ≤ n) ∧ ((((n = n) ∧ ((dx = dx) ∧ ((dY = dY) ∧ ((((.slice none 0 0) : Value) = (.slice none 0 0)) ∧ ((((x1 + 1) = y4) ∧ (((x1 + 1) ≤ 65) → (y4 ≤ 64))) ∧ (((x1 + 1) = y4) ∧ ((1 ≤ (x1 + 1) ∧ (x1 + 1) ≤ 65) → (0 ≤ y4 ∧ y4 ≤ 64)))))))) ∧ (((n ≤ n) ∧ (∀ e7 : E, ((0 ≤ e7.den ∧ e7.den < n) → ((((X (e7.den))) = ((X (e7.den)))) ∧ (((Y (e7.den))) = ((Y (e7.den)))))))) ∧ (((0 : Int) ≤ x1 ∧ y4 = x1 + 1) ∧ (((x1 ≤ x1) ∧ (∀ e6 : E, ((0 ≤ e6.den ∧ e6.den < x1) → ((((X ((e6.den))) + dx) = ((X ((e6.den))) + dx)) ∧ (((Y ((e6.den))) + dY) = ((Y ((e6.den))) + dY)))))) ∧ (∀ e5 : E, ((e5.den = x1) → (((((X (x1))) + dx) = ((X ((e5.den))) + dx)) ∧ ((((Y (x1))) + dY) = ((Y ((e5.den))) + dY))))))))) ∧ ((n - y4).toNat < (n - x1).toNat)))))))))) ∧ ((n ≤ x1) → ((x1 = n) ∧ (((n ≤ n) ∧ (∀ e9 : E, ((0 ≤ e9.den ∧ e9.den < n) → ((((X (e9.den))) = ((X (e9.den)))) ∧ (((Y (e9.den))) = ((Y (e9.den)))))))) ∧ ((n ≤ x1) ∧ (∀ e8 : E, ((0 ≤ e8.den ∧ e8.den < n) → ((((X ((e8.den))) + dx) = ((X (e8.den)) + dx)) ∧ (((Y ((e8.den))) + dY) = ((Y (e8.den)) + dY)))))))))))))) (by kernel_rfl) ?_
  intro h1 h2
  refine ⟨?_, ?_⟩
  · refine ⟨0, ?_⟩
    try dsimp only
    refine ⟨?_, ?_, ⟨Int.le_refl _, fun _ => fun _ => ⟨rfl, rfl⟩⟩, ?_⟩
    · omega
    · refine ⟨rfl, rfl, rfl, rfl, ?_, ?_⟩
      · rfl
      · rfl
    · rfl
  · intro j
    intro I1
    refine ⟨?_, ?_⟩
    · intro c11
      refine ⟨?_, ?_, ?_, ?_, ?_, ?_⟩
      · omega
      · omega
      · omega
      · omega
      · rfl
      · refine ⟨j + 1, ?_⟩
        try dsimp only
        refine ⟨?_, ?_, ?_⟩
        · omega
        · refine ⟨?_, ⟨Int.le_refl _, fun _ => fun _ => ⟨rfl, rfl⟩⟩, ?_, ⟨Int.le_refl _, fun _ => fun _ => ⟨rfl, rfl⟩⟩, ?_⟩
          · refine ⟨rfl, rfl, rfl, rfl, ?_, ?_, ?_⟩
            · refine ⟨?_, ?_⟩
              · rfl
              · intro c12
                omega
            · rfl
            · intro c13
              omega
          · omega
          · intro e5
            intro c14
            refine ⟨?_, ?_⟩
            · rw [show e5.den = j by omega]
            · rw [show e5.den = j by omega]
        · omega
    · intro c15
      refine ⟨?_, ⟨Int.le_refl _, fun _ => fun _ => ⟨rfl, rfl⟩⟩, ?_, fun _ => fun _ => ⟨rfl, rfl⟩⟩
      · omega
      · omega
def c_l_moved (X : Int → Int) (Y : Int → Int) (n : Int) (dx : Int) (dY : Int) : Cn Try.prog := ⟨_, _, _, _, _, l_moved X Y n dx dY⟩
def q1 (C : Int → Int) (n : Int) : Int := apP C (cut n) 0
def q2 (C : Int → Int) (n : Int) : Int := apP C (cut n) (q1 C n)
end Go.Proofs.Ytcfkpdjbjfnnmaa
