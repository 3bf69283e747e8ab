/- FnArrangement: the walk. -/
import Derived.Test.YtbldachljmhfjaaK57
import Derived.Test.YtbldachljmhfjaaR8
set_option linter.unusedSimpArgs false
set_option linter.unusedVariables false
set_option maxRecDepth 100000
namespace Go.Proofs.Ytbldachljmhfjaa
open Go.Sym
theorem s_DrawArrangement (C : Int → Int) (n : Int) : Runs Try.prog 13 [(.sl 0 1 (.lit 0) (.v fun _ => n) 9223372036854775807)] [some ⟨5, 1, false, (.sym (.v fun _ => n) fun e => [(.int .u8 (.v fun _ => (C (e.den))) 0 255)])⟩] fun r m => ∃ x : (Int → Int) × (Int → Int) × Int, (0 ≤ x.2.2 ∧ x.2.2 ≤ 9) ∧ r = (.sl 1 2 (.lit 0) (.v fun _ => x.2.2) 9) ∧ m = [some ⟨5, 1, false, (.sym (.v fun _ => cut n) fun e => [(.int .u8 (.v fun _ => (C (e.den))) 0 255)])⟩, some ⟨35, 2, true, (.sym (.v fun _ => x.2.2) fun e => [(.int .i64 (.v fun _ => (x.1 (e.den))) (-1001) 1001), (.int .i64 (.v fun _ => (x.2.1 (e.den))) (-1001) 1001)])⟩] := by
  refine RunsX.go (X := (Int → Int) × (Int → Int) × Int) (I := (fun x => 0 ≤ x.2.2 ∧ x.2.2 ≤ 9)) (R := (fun x => (.sl 1 2 (.lit 0) (.v fun _ => x.2.2) 9))) (M := (fun x => [some ⟨5, 1, false, (.sym (.v fun _ => cut n) fun e => [(.int .u8 (.v fun _ => (C (e.den))) 0 255)])⟩, some ⟨35, 2, true, (.sym (.v fun _ => x.2.2) fun e => [(.int .i64 (.v fun _ => (x.1 (e.den))) (-1001) 1001), (.int .i64 (.v fun _ => (x.2.1 (e.den))) (-1001) 1001)])⟩])) env Try.func13 rfl Try.call13 rfl rfl (fun _ _ => (.call (c_s_newReader C n) (.callX (c_anyGraphs C (cut n) 0) fun x3 => .ret))) (G := (0 ≤ n ∧ n ≤ 9223372036854775807) → (∀ e11 : E, ((0 ≤ e11.den ∧ e11.den < n) → (0 ≤ ((C (e11.den))) ∧ ((C (e11.den))) ≤ 255))) → ((n = n) ∧ (((n ≤ n) ∧ (∀ e1 : E, ((0 ≤ e1.den ∧ e1.den < n) → (((C (e1.den))) = ((C (e1.den))))))) ∧ (((((cut n) = (cut n)) ∧ ((0 : Int) = 0)) ∧ (((cut n) ≤ (cut n)) ∧ (∀ e2 : E, ((0 ≤ e2.den ∧ e2.den < (cut n)) → (((C (e2.den))) = ((C (e2.den)))))))) ∧ (∀ x3 : (Int → Int) × (Int → Int) × Int × Int, ((0 ≤ x3.2.2.1 ∧ x3.2.2.1 ≤ 9) → (∃ y8 : (Int → Int) × (Int → Int) × Int, ((0 ≤ y8.2.2 ∧ y8.2.2 ≤ 9) ∧ ((x3.2.2.1 = y8.2.2) ∧ ((((cut n) ≤ (cut n)) ∧ (∀ e10 : E, ((0 ≤ e10.den ∧ e10.den < (cut n)) → (((C (e10.den))) = ((C (e10.den))))))) ∧ ((y8.2.2 ≤ x3.2.2.1) ∧ (∀ e9 : E, ((0 ≤ e9.den ∧ e9.den < y8.2.2) → ((((x3.1 (e9.den))) = ((y8.1 (e9.den)))) ∧ (((x3.2.1 (e9.den))) = ((y8.2.1 (e9.den)))))))))))))))))) (by kernel_rfl) ?_
  intro h1 h2
  refine ⟨rfl, ⟨Int.le_refl _, fun _ => fun _ => rfl⟩, ⟨⟨rfl, rfl⟩, ⟨Int.le_refl _, fun _ => fun _ => rfl⟩⟩, ?_⟩
  rintro ⟨X4, Y5, m6, q7⟩
  dsimp only
  intro c12
  refine ⟨(X4, Y5, m6), ?_⟩
  try dsimp only
  refine ⟨?_, ?_, ⟨Int.le_refl _, fun _ => fun _ => rfl⟩, ?_, ?_⟩
    -- 1: 0 ≤ y8.2.2 ∧ y8.2.2 ≤ 9
  · first | omega | rfl | fail
    -- 2: x3.2.2.1 = y8.2.2
  · first | omega | rfl | fail
    -- 3: y8.2.2 ≤ x3.2.2.1
  · first | omega | rfl | fail
  · intro e9
    intro c13
    refine ⟨?_, ?_⟩
      -- 4: ((x3.1 (e9.den))) = ((y8.1 (e9.den)))
    · first | omega | rfl | fail
      -- 5: ((x3.2.1 (e9.den))) = ((y8.2.1 (e9.den)))
    · first | omega | rfl | fail
def c_s_DrawArrangement (C : Int → Int) (n : Int) : CnX Try.prog := ⟨_, _, _, (Int → Int) × (Int → Int) × Int, (fun x => 0 ≤ x.2.2 ∧ x.2.2 ≤ 9), (fun x => (.sl 1 2 (.lit 0) (.v fun _ => x.2.2) 9)), (fun x => [some ⟨5, 1, false, (.sym (.v fun _ => cut n) fun e => [(.int .u8 (.v fun _ => (C (e.den))) 0 255)])⟩, some ⟨35, 2, true, (.sym (.v fun _ => x.2.2) fun e => [(.int .i64 (.v fun _ => (x.1 (e.den))) (-1001) 1001), (.int .i64 (.v fun _ => (x.2.1 (e.den))) (-1001) 1001)])⟩]), s_DrawArrangement C n⟩
theorem l_FnArrangement (C : Int → Int) (n : Int) : RunsTo Try.prog 4 [(.sl 0 1 (.lit 0) (.v fun _ => n) 9223372036854775807)] [some ⟨5, 1, false, (.sym (.v fun _ => n) fun e => [(.int .u8 (.v fun _ => (C (e.den))) 0 255)])⟩] (.bool (.lit true)) [none] := by
  refine RunsTo.go env Try.func4 rfl Try.call4 rfl rfl (fun _ _ => (.ite .ret (.callX (c_s_DrawArrangement C n) fun x2 => (.callF (c_i_Arrangement x2.1 x2.2.1 x2.2.2) (.callF (c_s_Arrangement x2.1 x2.2.1 x2.2.2) (.ite (.ite (.ite .ret .ret) .ret) (.ite (.ite (.ite .ret .ret) .ret) (.ite (.ite (.ite .ret .ret) .ret) (.ite (.ite (.ite .ret .ret) .ret) (.ite (.ite (.ite (.ite .ret .ret) .ret) .ret) .ret)))))))))) (G := (0 ≤ n ∧ n ≤ 9223372036854775807) → (∀ e8 : E, ((0 ≤ e8.den ∧ e8.den < n) → (0 ≤ ((C (e8.den))) ∧ ((C (e8.den))) ≤ 255))) → ((n ≤ 1048576) → ((n = n) ∧ (((n ≤ n) ∧ (∀ e1 : E, ((0 ≤ e1.den ∧ e1.den < n) → (((C (e1.den))) = ((C (e1.den))))))) ∧ (∀ x2 : (Int → Int) × (Int → Int) × Int, ((0 ≤ x2.2.2 ∧ x2.2.2 ≤ 9) → ((x2.2.2 = x2.2.2) ∧ (((x2.2.2 ≤ x2.2.2) ∧ (∀ e6 : E, ((0 ≤ e6.den ∧ e6.den < x2.2.2) → ((((x2.1 (e6.den))) = ((x2.1 (e6.den)))) ∧ (((x2.2.1 (e6.den))) = ((x2.2.1 (e6.den)))))))) ∧ ((((-1) ≤ (saV x2.1 x2.2.1 x2.2.2) ∧ (saV x2.1 x2.2.1 x2.2.2) ≤ 64) ∧ (((-1) ≤ (saE x2.1 x2.2.1 x2.2.2) ∧ (saE x2.1 x2.2.1 x2.2.2) ≤ 72) ∧ ((-100) ≤ (saF x2.1 x2.2.1 x2.2.2) ∧ (saF x2.1 x2.2.1 x2.2.2) ≤ 100))) → ((x2.2.2 = x2.2.2) ∧ (((x2.2.2 ≤ x2.2.2) ∧ (∀ e7 : E, ((0 ≤ e7.den ∧ e7.den < x2.2.2) → ((((x2.1 (e7.den))) = ((x2.1 (e7.den)))) ∧ (((x2.2.1 (e7.den))) = ((x2.2.1 (e7.den)))))))) ∧ ((((-1) ≤ (saV x2.1 x2.2.1 x2.2.2) ∧ (saV x2.1 x2.2.1 x2.2.2) ≤ 64) ∧ (((-1) ≤ (saE x2.1 x2.2.1 x2.2.2) ∧ (saE x2.1 x2.2.1 x2.2.2) ≤ 72) ∧ ((-100) ≤ (saF x2.1 x2.2.1 x2.2.2) ∧ (saF x2.1 x2.2.1 x2.2.2) ≤ 100))) → ((((saV x2.1 x2.2.1 x2.2.2) ≠ (saV x2.1 x2.2.1 x2.2.2)) → ((((saV x2.1 x2.2.1 x2.2.2) = (saV x2.1 x2.2.1 x2.2.2)) → ((((saE x2.1 x2.2.1 x2.2.2) = (saE x2.1 x2.2.1 x2.2.2)) → ((saF x2.1 x2.2.1 x2.2.2) = (saF x2.1 x2.2.1 x2.2.2))) ∧ (((saE x2.1 x2.2.1 x2.2.2) ≠ (saE x2.1 x2.2.1 x2.2.2)) → (False)))) ∧ (((saV x2.1 x2.2.1 x2.2.2) ≠ (saV x2.1 x2.2.1 x2.2.2)) → (False)))) ∧ (((saV x2.1 x2.2.1 x2.2.2) = (saV x2.1 x2.2.1 x2.2.2)) → ((((saE x2.1 x2.2.1 x2.2.2) ≠ (saE x2.1 x2.2.1 x2.2.2)) → ((((saV x2.1 x2.2.1 x2.2.2) = (saV x2.1 x2.2.1 x2.2.2)) → ((((saE x2.1 x2.2.1 x2.2.2) = (saE x2.1 x2.2.1 x2.2.2)) → ((saF x2.1 x2.2.1 x2.2.2) = (saF x2.1 x2.2.1 x2.2.2))) ∧ (((saE x2.1 x2.2.1 x2.2.2) ≠ (saE x2.1 x2.2.1 x2.2.2)) → (False)))) ∧ (((saV x2.1 x2.2.1 x2.2.2) ≠ (saV x2.1 x2.2.1 x2.2.2)) → (False)))) ∧ (((saE x2.1 x2.2.1 x2.2.2) = (saE x2.1 x2.2.1 x2.2.2)) → ((((saF x2.1 x2.2.1 x2.2.2) ≠ (saF x2.1 x2.2.1 x2.2.2)) → ((((saV x2.1 x2.2.1 x2.2.2) = (saV x2.1 x2.2.1 x2.2.2)) → ((((saE x2.1 x2.2.1 x2.2.2) = (saE x2.1 x2.2.1 x2.2.2)) → ((saF x2.1 x2.2.1 x2.2.2) = (saF x2.1 x2.2.1 x2.2.2))) ∧ (((saE x2.1 x2.2.1 x2.2.2) ≠ (saE x2.1 x2.2.1 x2.2.2)) → (False)))) ∧ (((saV x2.1 x2.2.1 x2.2.2) ≠ (saV x2.1 x2.2.1 x2.2.2)) → (False)))) ∧ (((saF x2.1 x2.2.1 x2.2.2) = (saF x2.1 x2.2.1 x2.2.2)) → ((((saV x2.1 x2.2.1 x2.2.2) < 0) → ((((saV x2.1 x2.2.1 x2.2.2) = (saV x2.1 x2.2.1 x2.2.2)) → ((((saE x2.1 x2.2.1 x2.2.2) = (saE x2.1 x2.2.1 x2.2.2)) → ((saF x2.1 x2.2.1 x2.2.2) = (saF x2.1 x2.2.1 x2.2.2))) ∧ (((saE x2.1 x2.2.1 x2.2.2) ≠ (saE x2.1 x2.2.1 x2.2.2)) → (False)))) ∧ (((saV x2.1 x2.2.1 x2.2.2) ≠ (saV x2.1 x2.2.1 x2.2.2)) → (False)))) ∧ ((0 ≤ (saV x2.1 x2.2.1 x2.2.2)) → ((((((saV x2.1 x2.2.1 x2.2.2) - (saE x2.1 x2.2.1 x2.2.2)) + (saF x2.1 x2.2.1 x2.2.2)) = 1) → ((((saV x2.1 x2.2.1 x2.2.2) ≤ (Int.tdiv (x2.2.2 * (x2.2.2 - 1)) 2)) → ((((saE x2.1 x2.2.1 x2.2.2) ≤ (x2.2.2 * x2.2.2)) → (((x2.2.2 ≤ (saE x2.1 x2.2.1 x2.2.2)) → ((x2.2.2 + 1) ≤ (saF x2.1 x2.2.1 x2.2.2))) ∧ (((saE x2.1 x2.2.1 x2.2.2) < x2.2.2) → (False)))) ∧ (((x2.2.2 * x2.2.2) < (saE x2.1 x2.2.1 x2.2.2)) → (False)))) ∧ (((Int.tdiv (x2.2.2 * (x2.2.2 - 1)) 2) < (saV x2.1 x2.2.1 x2.2.2)) → (False)))) ∧ (((((saV x2.1 x2.2.1 x2.2.2) - (saE x2.1 x2.2.1 x2.2.2)) + (saF x2.1 x2.2.1 x2.2.2)) ≠ 1) → (False))))))))))))))))))))))) (by kernel_rfl) ?_
  intro h1 h2
  intro c9
  refine ⟨rfl, ⟨Int.le_refl _, fun _ => fun _ => rfl⟩, ?_⟩
  rintro ⟨X3, Y4, m5⟩
  dsimp only
  intro c10
  refine ⟨rfl, ⟨Int.le_refl _, fun _ => fun _ => ⟨rfl, rfl⟩⟩, ?_⟩
  intro c11
  refine ⟨rfl, ⟨Int.le_refl _, fun _ => fun _ => ⟨rfl, rfl⟩⟩, ?_⟩
  intro c12
  refine ⟨?_, ?_⟩
  · intro c13
    refine ⟨?_, ?_⟩
    · intro c14
      refine ⟨?_, ?_⟩
      · intro c15
        -- 1: (saF x2.1 x2.2.1 x2.2.2) = (saF x2.1 x2.2.1 x2.2.2)
        first | omega | rfl | (have hs := sa_euler (X := X3) (Y := Y4) (n := m5) (by omega) (by omega); omega) | fail
      · intro c16
        -- 2: False
        first | omega | rfl | (have hs := sa_euler (X := X3) (Y := Y4) (n := m5) (by omega) (by omega); omega) | fail
    · intro c17
      -- 3: False
      first | omega | rfl | (have hs := sa_euler (X := X3) (Y := Y4) (n := m5) (by omega) (by omega); omega) | fail
  · intro c18
    refine ⟨?_, ?_⟩
    · intro c19
      refine ⟨?_, ?_⟩
      · intro c20
        refine ⟨?_, ?_⟩
        · intro c21
          -- 4: (saF x2.1 x2.2.1 x2.2.2) = (saF x2.1 x2.2.1 x2.2.2)
          first | omega | rfl | (have hs := sa_euler (X := X3) (Y := Y4) (n := m5) (by omega) (by omega); omega) | fail
        · intro c22
          -- 5: False
          first | omega | rfl | (have hs := sa_euler (X := X3) (Y := Y4) (n := m5) (by omega) (by omega); omega) | fail
      · intro c23
        -- 6: False
        first | omega | rfl | (have hs := sa_euler (X := X3) (Y := Y4) (n := m5) (by omega) (by omega); omega) | fail
    · intro c24
      refine ⟨?_, ?_⟩
      · intro c25
        refine ⟨?_, ?_⟩
        · intro c26
          refine ⟨?_, ?_⟩
          · intro c27
            -- 7: (saF x2.1 x2.2.1 x2.2.2) = (saF x2.1 x2.2.1 x2.2.2)
            first | omega | rfl | (have hs := sa_euler (X := X3) (Y := Y4) (n := m5) (by omega) (by omega); omega) | fail
          · intro c28
            -- 8: False
            first | omega | rfl | (have hs := sa_euler (X := X3) (Y := Y4) (n := m5) (by omega) (by omega); omega) | fail
        · intro c29
          -- 9: False
          first | omega | rfl | (have hs := sa_euler (X := X3) (Y := Y4) (n := m5) (by omega) (by omega); omega) | fail
      · intro c30
        refine ⟨?_, ?_⟩
        · intro c31
          refine ⟨?_, ?_⟩
          · intro c32
            refine ⟨?_, ?_⟩
            · intro c33
              -- 10: (saF x2.1 x2.2.1 x2.2.2) = (saF x2.1 x2.2.1 x2.2.2)
              first | omega | rfl | (have hs := sa_euler (X := X3) (Y := Y4) (n := m5) (by omega) (by omega); omega) | fail
            · intro c34
              -- 11: False
              first | omega | rfl | (have hs := sa_euler (X := X3) (Y := Y4) (n := m5) (by omega) (by omega); omega) | fail
          · intro c35
            -- 12: False
            first | omega | rfl | (have hs := sa_euler (X := X3) (Y := Y4) (n := m5) (by omega) (by omega); omega) | fail
        · intro c36
          refine ⟨?_, ?_⟩
          · intro c37
            refine ⟨?_, ?_⟩
            · intro c38
              refine ⟨?_, ?_⟩
              · intro c39
                refine ⟨?_, ?_⟩
                · intro c40
                  -- 13: (x2.2.2 + 1) ≤ (saF x2.1 x2.2.1 x2.2.2)
                  first | omega | rfl | (have hs := sa_euler (X := X3) (Y := Y4) (n := m5) (by omega) (by omega); omega) | fail
                · intro c41
                  -- 14: False
                  first | omega | rfl | (have hs := sa_euler (X := X3) (Y := Y4) (n := m5) (by omega) (by omega); omega) | fail
              · intro c42
                -- 15: False
                first | omega | rfl | (have hs := sa_euler (X := X3) (Y := Y4) (n := m5) (by omega) (by omega); omega) | fail
            · intro c43
              -- 16: False
              first | omega | rfl | (have hs := sa_euler (X := X3) (Y := Y4) (n := m5) (by omega) (by omega); omega) | fail
          · intro c44
            -- 17: False
            first | omega | rfl | (have hs := sa_euler (X := X3) (Y := Y4) (n := m5) (by omega) (by omega); omega) | fail
def c_l_FnArrangement (C : Int → Int) (n : Int) : Cn Try.prog := ⟨_, _, _, _, _, l_FnArrangement C n⟩
end Go.Proofs.Ytbldachljmhfjaa
