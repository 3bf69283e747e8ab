/- FnArrangementMore: the walk. -/
import Derived.Test.YtbldachljmhfjaaLArrangement
set_option linter.unusedSimpArgs false
set_option linter.unusedVariables false
set_option maxRecDepth 100000
namespace Go.Proofs.Ytbldachljmhfjaa
open Go.Sym
theorem tmod_bd (m k : Int) (hm : 0 ≤ m) (hk : 0 < k) : 0 ≤ Int.tmod m k ∧ Int.tmod m k < k := ⟨Int.tmod_nonneg _ hm, Int.tmod_lt_of_pos _ hk⟩
theorem l_FnArrangementMore (C : Int → Int) (n : Int) (E2 : Int → Int) (m2 : Int) : RunsTo Try.prog 5 [(.sl 0 1 (.lit 0) (.v fun _ => n) 9223372036854775807), (.sl 1 1 (.lit 0) (.v fun _ => m2) 9223372036854775807)] [some ⟨5, 1, false, (.sym (.v fun _ => n) fun e => [(.int .u8 (.v fun _ => (C (e.den))) 0 255)])⟩, some ⟨5, 1, false, (.sym (.v fun _ => m2) fun e => [(.int .u8 (.v fun _ => (E2 (e.den))) 0 255)])⟩] (.bool (.lit true)) [none, none] := by
  refine RunsTo.go env Try.func5 rfl Try.call5 rfl rfl (fun _ _ => (.ite .ret (.ite .ret (.callX (c_s_DrawArrangement C n) fun x2 => (.callF (c_i_Arrangement x2.1 x2.2.1 x2.2.2) (.callF (c_s_Arrangement x2.1 x2.2.1 x2.2.2) (.ite (.ite (.ite .ret .ret) .ret) (.ite (.ite (.ite .ret .ret) .ret) (.ite (.ite (.ite .ret .ret) .ret) (.ite (.ite (.ite .ret .ret) .ret) (.need (.callH (c_i_Arrangement_pre x2.1 x2.2.1 (Int.tmod m2 (x2.2.2 + 1)) x2.2.2) (.ite (.ite (.ite .ret .ret) .ret) .ret))))))))))))) (G := ((0 ≤ n ∧ n ≤ 9223372036854775807) ∧ (0 ≤ m2 ∧ m2 ≤ 9223372036854775807)) → ((∀ e10 : E, ((0 ≤ e10.den ∧ e10.den < n) → (0 ≤ ((C (e10.den))) ∧ ((C (e10.den))) ≤ 255))) ∧ (∀ e9 : E, ((0 ≤ e9.den ∧ e9.den < m2) → (0 ≤ ((E2 (e9.den))) ∧ ((E2 (e9.den))) ≤ 255)))) → ((n ≤ 1048576) → ((m2 ≤ 1048576) → ((n = n) ∧ (((n ≤ n) ∧ (∀ e1 : E, ((0 ≤ e1.den ∧ e1.den < n) → (((C (e1.den))) = ((C (e1.den))))))) ∧ (∀ x2 : (Int → Int) × (Int → Int) × Int, ((0 ≤ x2.2.2 ∧ x2.2.2 ≤ 9) → ((x2.2.2 = x2.2.2) ∧ (((x2.2.2 ≤ x2.2.2) ∧ (∀ e6 : E, ((0 ≤ e6.den ∧ e6.den < x2.2.2) → ((((x2.1 (e6.den))) = ((x2.1 (e6.den)))) ∧ (((x2.2.1 (e6.den))) = ((x2.2.1 (e6.den)))))))) ∧ ((((-1) ≤ (saV x2.1 x2.2.1 x2.2.2) ∧ (saV x2.1 x2.2.1 x2.2.2) ≤ 64) ∧ (((-1) ≤ (saE x2.1 x2.2.1 x2.2.2) ∧ (saE x2.1 x2.2.1 x2.2.2) ≤ 72) ∧ ((-100) ≤ (saF x2.1 x2.2.1 x2.2.2) ∧ (saF x2.1 x2.2.1 x2.2.2) ≤ 100))) → ((x2.2.2 = x2.2.2) ∧ (((x2.2.2 ≤ x2.2.2) ∧ (∀ e7 : E, ((0 ≤ e7.den ∧ e7.den < x2.2.2) → ((((x2.1 (e7.den))) = ((x2.1 (e7.den)))) ∧ (((x2.2.1 (e7.den))) = ((x2.2.1 (e7.den)))))))) ∧ ((((-1) ≤ (saV x2.1 x2.2.1 x2.2.2) ∧ (saV x2.1 x2.2.1 x2.2.2) ≤ 64) ∧ (((-1) ≤ (saE x2.1 x2.2.1 x2.2.2) ∧ (saE x2.1 x2.2.1 x2.2.2) ≤ 72) ∧ ((-100) ≤ (saF x2.1 x2.2.1 x2.2.2) ∧ (saF x2.1 x2.2.1 x2.2.2) ≤ 100))) → ((((saV x2.1 x2.2.1 x2.2.2) ≠ (saV x2.1 x2.2.1 x2.2.2)) → ((((saV x2.1 x2.2.1 x2.2.2) = (saV x2.1 x2.2.1 x2.2.2)) → ((((saE x2.1 x2.2.1 x2.2.2) = (saE x2.1 x2.2.1 x2.2.2)) → ((saF x2.1 x2.2.1 x2.2.2) = (saF x2.1 x2.2.1 x2.2.2))) ∧ (((saE x2.1 x2.2.1 x2.2.2) ≠ (saE x2.1 x2.2.1 x2.2.2)) → (False)))) ∧ (((saV x2.1 x2.2.1 x2.2.2) ≠ (saV x2.1 x2.2.1 x2.2.2)) → (False)))) ∧ (((saV x2.1 x2.2.1 x2.2.2) = (saV x2.1 x2.2.1 x2.2.2)) → ((((saE x2.1 x2.2.1 x2.2.2) ≠ (saE x2.1 x2.2.1 x2.2.2)) → ((((saV x2.1 x2.2.1 x2.2.2) = (saV x2.1 x2.2.1 x2.2.2)) → ((((saE x2.1 x2.2.1 x2.2.2) = (saE x2.1 x2.2.1 x2.2.2)) → ((saF x2.1 x2.2.1 x2.2.2) = (saF x2.1 x2.2.1 x2.2.2))) ∧ (((saE x2.1 x2.2.1 x2.2.2) ≠ (saE x2.1 x2.2.1 x2.2.2)) → (False)))) ∧ (((saV x2.1 x2.2.1 x2.2.2) ≠ (saV x2.1 x2.2.1 x2.2.2)) → (False)))) ∧ (((saE x2.1 x2.2.1 x2.2.2) = (saE x2.1 x2.2.1 x2.2.2)) → ((((saF x2.1 x2.2.1 x2.2.2) ≠ (saF x2.1 x2.2.1 x2.2.2)) → ((((saV x2.1 x2.2.1 x2.2.2) = (saV x2.1 x2.2.1 x2.2.2)) → ((((saE x2.1 x2.2.1 x2.2.2) = (saE x2.1 x2.2.1 x2.2.2)) → ((saF x2.1 x2.2.1 x2.2.2) = (saF x2.1 x2.2.1 x2.2.2))) ∧ (((saE x2.1 x2.2.1 x2.2.2) ≠ (saE x2.1 x2.2.1 x2.2.2)) → (False)))) ∧ (((saV x2.1 x2.2.1 x2.2.2) ≠ (saV x2.1 x2.2.1 x2.2.2)) → (False)))) ∧ (((saF x2.1 x2.2.1 x2.2.2) = (saF x2.1 x2.2.1 x2.2.2)) → ((((saV x2.1 x2.2.1 x2.2.2) < 0) → ((((saV x2.1 x2.2.1 x2.2.2) = (saV x2.1 x2.2.1 x2.2.2)) → ((((saE x2.1 x2.2.1 x2.2.2) = (saE x2.1 x2.2.1 x2.2.2)) → ((saF x2.1 x2.2.1 x2.2.2) = (saF x2.1 x2.2.1 x2.2.2))) ∧ (((saE x2.1 x2.2.1 x2.2.2) ≠ (saE x2.1 x2.2.1 x2.2.2)) → (False)))) ∧ (((saV x2.1 x2.2.1 x2.2.2) ≠ (saV x2.1 x2.2.1 x2.2.2)) → (False)))) ∧ ((0 ≤ (saV x2.1 x2.2.1 x2.2.2)) → ((((0 ≤ (Int.tmod m2 (x2.2.2 + 1))) ∧ ((Int.tmod m2 (x2.2.2 + 1)) ≤ x2.2.2))) ∧ (((Int.tmod m2 (x2.2.2 + 1)) ≤ x2.2.2) ∧ (((Int.tmod m2 (x2.2.2 + 1)) = (Int.tmod m2 (x2.2.2 + 1))) ∧ (((x2.2.2 ≤ x2.2.2) ∧ (∀ e8 : E, ((0 ≤ e8.den ∧ e8.den < x2.2.2) → ((((x2.1 (e8.den))) = ((x2.1 (e8.den)))) ∧ (((x2.2.1 (e8.den))) = ((x2.2.1 (e8.den)))))))) ∧ (((0 ≤ (saV x2.1 x2.2.1 (Int.tmod m2 (x2.2.2 + 1)))) → ((((saV x2.1 x2.2.1 (Int.tmod m2 (x2.2.2 + 1))) ≤ (saV x2.1 x2.2.1 x2.2.2)) → ((((saE x2.1 x2.2.1 (Int.tmod m2 (x2.2.2 + 1))) ≤ (saE x2.1 x2.2.1 x2.2.2)) → ((saF x2.1 x2.2.1 (Int.tmod m2 (x2.2.2 + 1))) ≤ (saF x2.1 x2.2.1 x2.2.2))) ∧ (((saE x2.1 x2.2.1 x2.2.2) < (saE x2.1 x2.2.1 (Int.tmod m2 (x2.2.2 + 1)))) → (False)))) ∧ (((saV x2.1 x2.2.1 x2.2.2) < (saV x2.1 x2.2.1 (Int.tmod m2 (x2.2.2 + 1)))) → (False)))) ∧ (((saV x2.1 x2.2.1 (Int.tmod m2 (x2.2.2 + 1))) < 0) → (False)))))))))))))))))))))))))))) (by kernel_rfl) ?_
  intro h1 h2
  intro c11
  intro c12
  refine ⟨rfl, ⟨Int.le_refl _, fun _ => fun _ => rfl⟩, ?_⟩
  rintro ⟨X3, Y4, m5⟩
  dsimp only
  intro c13
  refine ⟨rfl, ⟨Int.le_refl _, fun _ => fun _ => ⟨rfl, rfl⟩⟩, ?_⟩
  intro c14
  refine ⟨rfl, ⟨Int.le_refl _, fun _ => fun _ => ⟨rfl, rfl⟩⟩, ?_⟩
  intro c15
  refine ⟨?_, ?_⟩
  · intro c16
    refine ⟨?_, ?_⟩
    · intro c17
      refine ⟨?_, ?_⟩
      · intro c18
        -- 1: (saF x2.1 x2.2.1 x2.2.2) = (saF x2.1 x2.2.1 x2.2.2)
        first | omega | rfl | (have hm := tmod_bd m2 (m5 + 1) (by omega) (by omega); omega) | (have hm := tmod_bd m2 (m5 + 1) (by omega) (by omega); have hs := sa_more (X := X3) (Y := Y4) (n := m5) (m := Int.tmod m2 (m5 + 1)) hm.1 (by omega) (by omega); omega) | fail
      · intro c19
        -- 2: False
        first | omega | rfl | (have hm := tmod_bd m2 (m5 + 1) (by omega) (by omega); omega) | (have hm := tmod_bd m2 (m5 + 1) (by omega) (by omega); have hs := sa_more (X := X3) (Y := Y4) (n := m5) (m := Int.tmod m2 (m5 + 1)) hm.1 (by omega) (by omega); omega) | fail
    · intro c20
      -- 3: False
      first | omega | rfl | (have hm := tmod_bd m2 (m5 + 1) (by omega) (by omega); omega) | (have hm := tmod_bd m2 (m5 + 1) (by omega) (by omega); have hs := sa_more (X := X3) (Y := Y4) (n := m5) (m := Int.tmod m2 (m5 + 1)) hm.1 (by omega) (by omega); omega) | fail
  · intro c21
    refine ⟨?_, ?_⟩
    · intro c22
      refine ⟨?_, ?_⟩
      · intro c23
        refine ⟨?_, ?_⟩
        · intro c24
          -- 4: (saF x2.1 x2.2.1 x2.2.2) = (saF x2.1 x2.2.1 x2.2.2)
          first | omega | rfl | (have hm := tmod_bd m2 (m5 + 1) (by omega) (by omega); omega) | (have hm := tmod_bd m2 (m5 + 1) (by omega) (by omega); have hs := sa_more (X := X3) (Y := Y4) (n := m5) (m := Int.tmod m2 (m5 + 1)) hm.1 (by omega) (by omega); omega) | fail
        · intro c25
          -- 5: False
          first | omega | rfl | (have hm := tmod_bd m2 (m5 + 1) (by omega) (by omega); omega) | (have hm := tmod_bd m2 (m5 + 1) (by omega) (by omega); have hs := sa_more (X := X3) (Y := Y4) (n := m5) (m := Int.tmod m2 (m5 + 1)) hm.1 (by omega) (by omega); omega) | fail
      · intro c26
        -- 6: False
        first | omega | rfl | (have hm := tmod_bd m2 (m5 + 1) (by omega) (by omega); omega) | (have hm := tmod_bd m2 (m5 + 1) (by omega) (by omega); have hs := sa_more (X := X3) (Y := Y4) (n := m5) (m := Int.tmod m2 (m5 + 1)) hm.1 (by omega) (by omega); omega) | fail
    · intro c27
      refine ⟨?_, ?_⟩
      · intro c28
        refine ⟨?_, ?_⟩
        · intro c29
          refine ⟨?_, ?_⟩
          · intro c30
            -- 7: (saF x2.1 x2.2.1 x2.2.2) = (saF x2.1 x2.2.1 x2.2.2)
            first | omega | rfl | (have hm := tmod_bd m2 (m5 + 1) (by omega) (by omega); omega) | (have hm := tmod_bd m2 (m5 + 1) (by omega) (by omega); have hs := sa_more (X := X3) (Y := Y4) (n := m5) (m := Int.tmod m2 (m5 + 1)) hm.1 (by omega) (by omega); omega) | fail
          · intro c31
            -- 8: False
            first | omega | rfl | (have hm := tmod_bd m2 (m5 + 1) (by omega) (by omega); omega) | (have hm := tmod_bd m2 (m5 + 1) (by omega) (by omega); have hs := sa_more (X := X3) (Y := Y4) (n := m5) (m := Int.tmod m2 (m5 + 1)) hm.1 (by omega) (by omega); omega) | fail
        · intro c32
          -- 9: False
          first | omega | rfl | (have hm := tmod_bd m2 (m5 + 1) (by omega) (by omega); omega) | (have hm := tmod_bd m2 (m5 + 1) (by omega) (by omega); have hs := sa_more (X := X3) (Y := Y4) (n := m5) (m := Int.tmod m2 (m5 + 1)) hm.1 (by omega) (by omega); omega) | fail
      · intro c33
        refine ⟨?_, ?_⟩
        · intro c34
          refine ⟨?_, ?_⟩
          · intro c35
            refine ⟨?_, ?_⟩
            · intro c36
              -- 10: (saF x2.1 x2.2.1 x2.2.2) = (saF x2.1 x2.2.1 x2.2.2)
              first | omega | rfl | (have hm := tmod_bd m2 (m5 + 1) (by omega) (by omega); omega) | (have hm := tmod_bd m2 (m5 + 1) (by omega) (by omega); have hs := sa_more (X := X3) (Y := Y4) (n := m5) (m := Int.tmod m2 (m5 + 1)) hm.1 (by omega) (by omega); omega) | fail
            · intro c37
              -- 11: False
              first | omega | rfl | (have hm := tmod_bd m2 (m5 + 1) (by omega) (by omega); omega) | (have hm := tmod_bd m2 (m5 + 1) (by omega) (by omega); have hs := sa_more (X := X3) (Y := Y4) (n := m5) (m := Int.tmod m2 (m5 + 1)) hm.1 (by omega) (by omega); omega) | fail
          · intro c38
            -- 12: False
            first | omega | rfl | (have hm := tmod_bd m2 (m5 + 1) (by omega) (by omega); omega) | (have hm := tmod_bd m2 (m5 + 1) (by omega) (by omega); have hs := sa_more (X := X3) (Y := Y4) (n := m5) (m := Int.tmod m2 (m5 + 1)) hm.1 (by omega) (by omega); omega) | fail
        · intro c39
          refine ⟨?_, ?_, rfl, ⟨Int.le_refl _, fun _ => fun _ => ⟨rfl, rfl⟩⟩, ?_, ?_⟩
            -- 13: ((0 ≤ (Int.tmod m2 (x2.2.2 + 1))) ∧ ((Int.tmod m2 (x2.2.2 + 1)) ≤ x2.2.2))
          · first | omega | rfl | (have hm := tmod_bd m2 (m5 + 1) (by omega) (by omega); omega) | (have hm := tmod_bd m2 (m5 + 1) (by omega) (by omega); have hs := sa_more (X := X3) (Y := Y4) (n := m5) (m := Int.tmod m2 (m5 + 1)) hm.1 (by omega) (by omega); omega) | fail
            -- 14: (Int.tmod m2 (x2.2.2 + 1)) ≤ x2.2.2
          · first | omega | rfl | (have hm := tmod_bd m2 (m5 + 1) (by omega) (by omega); omega) | (have hm := tmod_bd m2 (m5 + 1) (by omega) (by omega); have hs := sa_more (X := X3) (Y := Y4) (n := m5) (m := Int.tmod m2 (m5 + 1)) hm.1 (by omega) (by omega); omega) | fail
          · intro c40
            refine ⟨?_, ?_⟩
            · intro c41
              refine ⟨?_, ?_⟩
              · intro c42
                -- 15: (saF x2.1 x2.2.1 (Int.tmod m2 (x2.2.2 + 1))) ≤ (saF x2.1 x2.2.1 x2.2.2)
                first | omega | rfl | (have hm := tmod_bd m2 (m5 + 1) (by omega) (by omega); omega) | (have hm := tmod_bd m2 (m5 + 1) (by omega) (by omega); have hs := sa_more (X := X3) (Y := Y4) (n := m5) (m := Int.tmod m2 (m5 + 1)) hm.1 (by omega) (by omega); omega) | fail
              · intro c43
                -- 16: False
                first | omega | rfl | (have hm := tmod_bd m2 (m5 + 1) (by omega) (by omega); omega) | (have hm := tmod_bd m2 (m5 + 1) (by omega) (by omega); have hs := sa_more (X := X3) (Y := Y4) (n := m5) (m := Int.tmod m2 (m5 + 1)) hm.1 (by omega) (by omega); omega) | fail
            · intro c44
              -- 17: False
              first | omega | rfl | (have hm := tmod_bd m2 (m5 + 1) (by omega) (by omega); omega) | (have hm := tmod_bd m2 (m5 + 1) (by omega) (by omega); have hs := sa_more (X := X3) (Y := Y4) (n := m5) (m := Int.tmod m2 (m5 + 1)) hm.1 (by omega) (by omega); omega) | fail
          · intro c45
            -- 18: False
            first | omega | rfl | (have hm := tmod_bd m2 (m5 + 1) (by omega) (by omega); omega) | (have hm := tmod_bd m2 (m5 + 1) (by omega) (by omega); have hs := sa_more (X := X3) (Y := Y4) (n := m5) (m := Int.tmod m2 (m5 + 1)) hm.1 (by omega) (by omega); omega) | fail
def c_l_FnArrangementMore (C : Int → Int) (n : Int) (E2 : Int → Int) (m2 : Int) : Cn Try.prog := ⟨_, _, _, _, _, l_FnArrangementMore C n E2 m2⟩
end Go.Proofs.Ytbldachljmhfjaa
