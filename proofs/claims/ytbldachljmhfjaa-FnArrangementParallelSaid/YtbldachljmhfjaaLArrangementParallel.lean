/- FnArrangementParallel: the walk. -/
import Derived.Test.YtbldachljmhfjaaLArrangement
set_option linter.unusedSimpArgs false
set_option linter.unusedVariables false
set_option maxRecDepth 100000
namespace Go.Proofs.Ytbldachljmhfjaa
open Go.Sym
theorem l_FnArrangementParallel (C : Int → Int) (n : Int) : RunsTo Try.prog 6 [(.sl 0 1 (.lit 0) (.v fun _ => n) 9223372036854775807)] [some ⟨5, 1, false, (.sym (.v fun _ => n) fun e => [(.int .u8 (.v fun _ => (C (e.den))) 0 255)])⟩] (.bool (.lit true)) [none] := by
  refine RunsTo.go env Try.func6 rfl Try.call6 rfl rfl (fun _ _ => (.ite .ret (.callX (c_s_DrawArrangement C n) fun x2 => (.callF (c_i_Arrangement x2.1 x2.2.1 x2.2.2) (.callF (c_s_Arrangement x2.1 x2.2.1 x2.2.2) (.ite (.ite (.ite .ret .ret) .ret) (.ite (.ite (.ite .ret .ret) .ret) (.ite (.ite (.ite .ret .ret) .ret) (.ite (.ite (.ite .ret .ret) .ret) (.loop [] [0, 1, 2] (Int) (fun x8 => ⟨spl 95 0 [(2, (.bool (.lit false))), (3, (.sl 1 2 (.lit 0) (.v fun _ => x2.2.2) 9)), (10, (.sl 2 2 (.lit 0) (.v fun _ => x8) 9)), (11, (.int .i64 (.v fun _ => x8) 0 9))], [some ⟨5, 1, false, (.sym (.v fun _ => cut n) fun e => [(.int .u8 (.v fun _ => ((C (e.den)))) 0 255)])⟩, some ⟨35, 2, true, (.sym (.v fun _ => x2.2.2) fun e => [(.int .i64 (.v fun _ => ((x2.1 (e.den)))) (-9223372036854775808) 9223372036854775807), (.int .i64 (.v fun _ => ((x2.2.1 (e.den)))) (-9223372036854775808) 9223372036854775807)])⟩, some ⟨35, 2, true, (.sym (.v fun _ => x8) fun e => [(.int .i64 (.v fun _ => two (e.den)) 2 2), (.int .i64 (.v fun _ => idI (e.den)) 0 9)])⟩], 1⟩) (fun x8 => 0 ≤ x8 ∧ x8 ≤ x2.2.2) (fun x8 => (x2.2.2 - x8).toNat) fun x8 => (.ite (.need (.next [0, 1, 2])) (.out (.callF (c_i_Arrangement (two) (idI) x8) (.ite (.ite .ret .ret) .ret)))))))))))))) (G := (0 ≤ n ∧ n ≤ 9223372036854775807) → (∀ e18 : E, ((0 ≤ e18.den ∧ e18.den < n) → (0 ≤ ((C (e18.den))) ∧ ((C (e18.den))) ≤ 255))) → ((n ≤ 1048576) → ((n = n) ∧ (((n ≤ n) ∧ (∀ e1 : E, ((0 ≤ e1.den ∧ e1.den < n) → (((C (e1.den))) = ((C (e1.den))))))) ∧ (∀ x2 : (Int → Int) × (Int → Int) × Int, ((0 ≤ x2.2.2 ∧ x2.2.2 ≤ 9) → ((x2.2.2 = x2.2.2) ∧ (((x2.2.2 ≤ x2.2.2) ∧ (∀ e6 : E, ((0 ≤ e6.den ∧ e6.den < x2.2.2) → ((((x2.1 (e6.den))) = ((x2.1 (e6.den)))) ∧ (((x2.2.1 (e6.den))) = ((x2.2.1 (e6.den)))))))) ∧ ((((-1) ≤ (saV x2.1 x2.2.1 x2.2.2) ∧ (saV x2.1 x2.2.1 x2.2.2) ≤ 64) ∧ (((-1) ≤ (saE x2.1 x2.2.1 x2.2.2) ∧ (saE x2.1 x2.2.1 x2.2.2) ≤ 72) ∧ ((-100) ≤ (saF x2.1 x2.2.1 x2.2.2) ∧ (saF x2.1 x2.2.1 x2.2.2) ≤ 100))) → ((x2.2.2 = x2.2.2) ∧ (((x2.2.2 ≤ x2.2.2) ∧ (∀ e7 : E, ((0 ≤ e7.den ∧ e7.den < x2.2.2) → ((((x2.1 (e7.den))) = ((x2.1 (e7.den)))) ∧ (((x2.2.1 (e7.den))) = ((x2.2.1 (e7.den)))))))) ∧ ((((-1) ≤ (saV x2.1 x2.2.1 x2.2.2) ∧ (saV x2.1 x2.2.1 x2.2.2) ≤ 64) ∧ (((-1) ≤ (saE x2.1 x2.2.1 x2.2.2) ∧ (saE x2.1 x2.2.1 x2.2.2) ≤ 72) ∧ ((-100) ≤ (saF x2.1 x2.2.1 x2.2.2) ∧ (saF x2.1 x2.2.1 x2.2.2) ≤ 100))) → ((((saV x2.1 x2.2.1 x2.2.2) ≠ (saV x2.1 x2.2.1 x2.2.2)) → ((((saV x2.1 x2.2.1 x2.2.2) = (saV x2.1 x2.2.1 x2.2.2)) → ((((saE x2.1 x2.2.1 x2.2.2) = (saE x2.1 x2.2.1 x2.2.2)) → ((saF x2.1 x2.2.1 x2.2.2) = (saF x2.1 x2.2.1 x2.2.2))) ∧ (((saE x2.1 x2.2.1 x2.2.2) ≠ (saE x2.1 x2.2.1 x2.2.2)) → (False)))) ∧ (((saV x2.1 x2.2.1 x2.2.2) ≠ (saV x2.1 x2.2.1 x2.2.2)) → (False)))) ∧ (((saV x2.1 x2.2.1 x2.2.2) = (saV x2.1 x2.2.1 x2.2.2)) → ((((saE x2.1 x2.2.1 x2.2.2) ≠ (saE x2.1 x2.2.1 x2.2.2)) → ((((saV x2.1 x2.2.1 x2.2.2) = (saV x2.1 x2.2.1 x2.2.2)) → ((((saE x2.1 x2.2.1 x2.2.2) = (saE x2.1 x2.2.1 x2.2.2)) → ((saF x2.1 x2.2.1 x2.2.2) = (saF x2.1 x2.2.1 x2.2.2))) ∧ (((saE x2.1 x2.2.1 x2.2.2) ≠ (saE x2.1 x2.2.1 x2.2.2)) → (False)))) ∧ (((saV x2.1 x2.2.1 x2.2.2) ≠ (saV x2.1 x2.2.1 x2.2.2)) → (False)))) ∧ (((saE x2.1 x2.2.1 x2.2.2) = (saE x2.1 x2.2.1 x2.2.2)) → ((((saF x2.1 x2.2.1 x2.2.2) ≠ (saF x2.1 x2.2.1 x2.2.2)) → ((((saV x2.1 x2.2.1 x2.2.2) = (saV x2.1 x2.2.1 x2.2.2)) → ((((saE x2.1 x2.2.1 x2.2.2) = (saE x2.1 x2.2.1 x2.2.2)) → ((saF x2.1 x2.2.1 x2.2.2) = (saF x2.1 x2.2.1 x2.2.2))) ∧ (((saE x2.1 x2.2.1 x2.2.2) ≠ (saE x2.1 x2.2.1 x2.2.2)) → (False)))) ∧ (((saV x2.1 x2.2.1 x2.2.2) ≠ (saV x2.1 x2.2.1 x2.2.2)) → (False)))) ∧ (((saF x2.1 x2.2.1 x2.2.2) = (saF x2.1 x2.2.1 x2.2.2)) → ((((saV x2.1 x2.2.1 x2.2.2) < 0) → ((((saV x2.1 x2.2.1 x2.2.2) = (saV x2.1 x2.2.1 x2.2.2)) → ((((saE x2.1 x2.2.1 x2.2.2) = (saE x2.1 x2.2.1 x2.2.2)) → ((saF x2.1 x2.2.1 x2.2.2) = (saF x2.1 x2.2.1 x2.2.2))) ∧ (((saE x2.1 x2.2.1 x2.2.2) ≠ (saE x2.1 x2.2.1 x2.2.2)) → (False)))) ∧ (((saV x2.1 x2.2.1 x2.2.2) ≠ (saV x2.1 x2.2.1 x2.2.2)) → (False)))) ∧ ((0 ≤ (saV x2.1 x2.2.1 x2.2.2)) → ((∃ y9 : Int, ((0 ≤ y9 ∧ y9 ≤ x2.2.2) ∧ (((x2.2.2 = x2.2.2) ∧ (((0 : Int) = y9) ∧ ((0 : Int) = y9))) ∧ ((((cut n) ≤ (cut n)) ∧ (∀ e11 : E, ((0 ≤ e11.den ∧ e11.den < (cut n)) → (((C (e11.den))) = ((C (e11.den))))))) ∧ (((x2.2.2 ≤ x2.2.2) ∧ (∀ e10 : E, ((0 ≤ e10.den ∧ e10.den < x2.2.2) → ((((x2.1 (e10.den))) = ((x2.1 (e10.den)))) ∧ (((x2.2.1 (e10.den))) = ((x2.2.1 (e10.den)))))))) ∧ (y9 = 0)))))) ∧ (∀ x8 : Int, ((0 ≤ x8 ∧ x8 ≤ x2.2.2) → (((x8 < x2.2.2) → ((x8 = x8) ∧ (∃ y12 : Int, ((0 ≤ y12 ∧ y12 ≤ x2.2.2) ∧ ((((x2.2.2 = x2.2.2) ∧ ((((x8 + 1) = y12) ∧ (((x8 + 1) ≤ 10) → (y12 ≤ 9))) ∧ (((x8 + 1) = y12) ∧ ((1 ≤ (x8 + 1) ∧ (x8 + 1) ≤ 10) → (0 ≤ y12 ∧ y12 ≤ 9))))) ∧ ((((cut n) ≤ (cut n)) ∧ (∀ e16 : E, ((0 ≤ e16.den ∧ e16.den < (cut n)) → (((C (e16.den))) = ((C (e16.den))))))) ∧ (((x2.2.2 ≤ x2.2.2) ∧ (∀ e15 : E, ((0 ≤ e15.den ∧ e15.den < x2.2.2) → ((((x2.1 (e15.den))) = ((x2.1 (e15.den)))) ∧ (((x2.2.1 (e15.den))) = ((x2.2.1 (e15.den)))))))) ∧ (((0 : Int) ≤ x8 ∧ y12 = x8 + 1) ∧ (((x8 ≤ x8) ∧ (∀ e14 : E, ((0 ≤ e14.den ∧ e14.den < x8) → (((two (e14.den)) = (two (e14.den))) ∧ ((idI (e14.den)) = (idI (e14.den))))))) ∧ (∀ e13 : E, ((e13.den = x8) → (((2 : Int) = (two (e13.den))) ∧ (x8 = (idI (e13.den))))))))))) ∧ ((x2.2.2 - y12).toNat < (x2.2.2 - x8).toNat)))))) ∧ ((x2.2.2 ≤ x8) → ((x8 = x8) ∧ (((x8 ≤ x8) ∧ (∀ e17 : E, ((0 ≤ e17.den ∧ e17.den < x8) → (((two (e17.den)) = (two ((e17.den)))) ∧ ((idI (e17.den)) = (idI ((e17.den)))))))) ∧ ((((-1) ≤ (saV (two) (idI) x8) ∧ (saV (two) (idI) x8) ≤ 64) ∧ (((-1) ≤ (saE (two) (idI) x8) ∧ (saE (two) (idI) x8) ≤ 72) ∧ ((-100) ≤ (saF (two) (idI) x8) ∧ (saF (two) (idI) x8) ≤ 100))) → ((((saV (two) (idI) x8) = 0) → ((((saE (two) (idI) x8) = x2.2.2) → ((saF (two) (idI) x8) = (x2.2.2 + 1))) ∧ (((saE (two) (idI) x8) ≠ x2.2.2) → (False)))) ∧ (((saV (two) (idI) x8) ≠ 0) → (False))))))))))))))))))))))))))))))) (by kernel_rfl) ?_
  intro h1 h2
  intro c19
  refine ⟨rfl, ⟨Int.le_refl _, fun _ => fun _ => rfl⟩, ?_⟩
  rintro ⟨X3, Y4, m5⟩
  dsimp only
  intro c20
  refine ⟨rfl, ⟨Int.le_refl _, fun _ => fun _ => ⟨rfl, rfl⟩⟩, ?_⟩
  intro c21
  refine ⟨rfl, ⟨Int.le_refl _, fun _ => fun _ => ⟨rfl, rfl⟩⟩, ?_⟩
  intro c22
  refine ⟨?_, ?_⟩
  · intro c23
    refine ⟨?_, ?_⟩
    · intro c24
      refine ⟨?_, ?_⟩
      · intro c25
        -- 1: (saF x2.1 x2.2.1 x2.2.2) = (saF x2.1 x2.2.1 x2.2.2)
        first | omega | rfl | (rw [show e0.den = j by omega]; rfl) | (have hg := sa_gok (X := X3) (Y := Y4) (n := m5) (by omega); have h8 := (gok_iff.1 hg).2; first | omega | (have e : j = m5 := (by omega); have hs := sa_par (n := m5) (by omega) h8; subst e; omega) | (have e : j = m5 := (by omega); have hs := sa_par (n := m5) (by omega) h8; subst e; simp_all; done)) | fail
      · intro c26
        -- 2: False
        first | omega | rfl | (rw [show e0.den = j by omega]; rfl) | (have hg := sa_gok (X := X3) (Y := Y4) (n := m5) (by omega); have h8 := (gok_iff.1 hg).2; first | omega | (have e : j = m5 := (by omega); have hs := sa_par (n := m5) (by omega) h8; subst e; omega) | (have e : j = m5 := (by omega); have hs := sa_par (n := m5) (by omega) h8; subst e; simp_all; done)) | fail
    · intro c27
      -- 3: False
      first | omega | rfl | (rw [show e0.den = j by omega]; rfl) | (have hg := sa_gok (X := X3) (Y := Y4) (n := m5) (by omega); have h8 := (gok_iff.1 hg).2; first | omega | (have e : j = m5 := (by omega); have hs := sa_par (n := m5) (by omega) h8; subst e; omega) | (have e : j = m5 := (by omega); have hs := sa_par (n := m5) (by omega) h8; subst e; simp_all; done)) | fail
  · intro c28
    refine ⟨?_, ?_⟩
    · intro c29
      refine ⟨?_, ?_⟩
      · intro c30
        refine ⟨?_, ?_⟩
        · intro c31
          -- 4: (saF x2.1 x2.2.1 x2.2.2) = (saF x2.1 x2.2.1 x2.2.2)
          first | omega | rfl | (rw [show e0.den = j by omega]; rfl) | (have hg := sa_gok (X := X3) (Y := Y4) (n := m5) (by omega); have h8 := (gok_iff.1 hg).2; first | omega | (have e : j = m5 := (by omega); have hs := sa_par (n := m5) (by omega) h8; subst e; omega) | (have e : j = m5 := (by omega); have hs := sa_par (n := m5) (by omega) h8; subst e; simp_all; done)) | fail
        · intro c32
          -- 5: False
          first | omega | rfl | (rw [show e0.den = j by omega]; rfl) | (have hg := sa_gok (X := X3) (Y := Y4) (n := m5) (by omega); have h8 := (gok_iff.1 hg).2; first | omega | (have e : j = m5 := (by omega); have hs := sa_par (n := m5) (by omega) h8; subst e; omega) | (have e : j = m5 := (by omega); have hs := sa_par (n := m5) (by omega) h8; subst e; simp_all; done)) | fail
      · intro c33
        -- 6: False
        first | omega | rfl | (rw [show e0.den = j by omega]; rfl) | (have hg := sa_gok (X := X3) (Y := Y4) (n := m5) (by omega); have h8 := (gok_iff.1 hg).2; first | omega | (have e : j = m5 := (by omega); have hs := sa_par (n := m5) (by omega) h8; subst e; omega) | (have e : j = m5 := (by omega); have hs := sa_par (n := m5) (by omega) h8; subst e; simp_all; done)) | fail
    · intro c34
      refine ⟨?_, ?_⟩
      · intro c35
        refine ⟨?_, ?_⟩
        · intro c36
          refine ⟨?_, ?_⟩
          · intro c37
            -- 7: (saF x2.1 x2.2.1 x2.2.2) = (saF x2.1 x2.2.1 x2.2.2)
            first | omega | rfl | (rw [show e0.den = j by omega]; rfl) | (have hg := sa_gok (X := X3) (Y := Y4) (n := m5) (by omega); have h8 := (gok_iff.1 hg).2; first | omega | (have e : j = m5 := (by omega); have hs := sa_par (n := m5) (by omega) h8; subst e; omega) | (have e : j = m5 := (by omega); have hs := sa_par (n := m5) (by omega) h8; subst e; simp_all; done)) | fail
          · intro c38
            -- 8: False
            first | omega | rfl | (rw [show e0.den = j by omega]; rfl) | (have hg := sa_gok (X := X3) (Y := Y4) (n := m5) (by omega); have h8 := (gok_iff.1 hg).2; first | omega | (have e : j = m5 := (by omega); have hs := sa_par (n := m5) (by omega) h8; subst e; omega) | (have e : j = m5 := (by omega); have hs := sa_par (n := m5) (by omega) h8; subst e; simp_all; done)) | fail
        · intro c39
          -- 9: False
          first | omega | rfl | (rw [show e0.den = j by omega]; rfl) | (have hg := sa_gok (X := X3) (Y := Y4) (n := m5) (by omega); have h8 := (gok_iff.1 hg).2; first | omega | (have e : j = m5 := (by omega); have hs := sa_par (n := m5) (by omega) h8; subst e; omega) | (have e : j = m5 := (by omega); have hs := sa_par (n := m5) (by omega) h8; subst e; simp_all; done)) | fail
      · intro c40
        refine ⟨?_, ?_⟩
        · intro c41
          refine ⟨?_, ?_⟩
          · intro c42
            refine ⟨?_, ?_⟩
            · intro c43
              -- 10: (saF x2.1 x2.2.1 x2.2.2) = (saF x2.1 x2.2.1 x2.2.2)
              first | omega | rfl | (rw [show e0.den = j by omega]; rfl) | (have hg := sa_gok (X := X3) (Y := Y4) (n := m5) (by omega); have h8 := (gok_iff.1 hg).2; first | omega | (have e : j = m5 := (by omega); have hs := sa_par (n := m5) (by omega) h8; subst e; omega) | (have e : j = m5 := (by omega); have hs := sa_par (n := m5) (by omega) h8; subst e; simp_all; done)) | fail
            · intro c44
              -- 11: False
              first | omega | rfl | (rw [show e0.den = j by omega]; rfl) | (have hg := sa_gok (X := X3) (Y := Y4) (n := m5) (by omega); have h8 := (gok_iff.1 hg).2; first | omega | (have e : j = m5 := (by omega); have hs := sa_par (n := m5) (by omega) h8; subst e; omega) | (have e : j = m5 := (by omega); have hs := sa_par (n := m5) (by omega) h8; subst e; simp_all; done)) | fail
          · intro c45
            -- 12: False
            first | omega | rfl | (rw [show e0.den = j by omega]; rfl) | (have hg := sa_gok (X := X3) (Y := Y4) (n := m5) (by omega); have h8 := (gok_iff.1 hg).2; first | omega | (have e : j = m5 := (by omega); have hs := sa_par (n := m5) (by omega) h8; subst e; omega) | (have e : j = m5 := (by omega); have hs := sa_par (n := m5) (by omega) h8; subst e; simp_all; done)) | fail
        · intro c46
          refine ⟨?_, ?_⟩
          · refine ⟨0, ?_⟩
            try dsimp only
            refine ⟨?_, ?_, ⟨Int.le_refl _, fun _ => fun _ => rfl⟩, ⟨Int.le_refl _, fun _ => fun _ => ⟨rfl, rfl⟩⟩, ?_⟩
              -- 13: 0 ≤ y9 ∧ y9 ≤ x2.2.2
            · first | omega | rfl | (rw [show e0.den = j by omega]; rfl) | (have hg := sa_gok (X := X3) (Y := Y4) (n := m5) (by omega); have h8 := (gok_iff.1 hg).2; first | omega | (have e : j = m5 := (by omega); have hs := sa_par (n := m5) (by omega) h8; subst e; omega) | (have e : j = m5 := (by omega); have hs := sa_par (n := m5) (by omega) h8; subst e; simp_all; done)) | fail
            · refine ⟨rfl, ?_, ?_⟩
                -- 14: (0 : Int) = y9
              · first | omega | rfl | (rw [show e0.den = j by omega]; rfl) | (have hg := sa_gok (X := X3) (Y := Y4) (n := m5) (by omega); have h8 := (gok_iff.1 hg).2; first | omega | (have e : j = m5 := (by omega); have hs := sa_par (n := m5) (by omega) h8; subst e; omega) | (have e : j = m5 := (by omega); have hs := sa_par (n := m5) (by omega) h8; subst e; simp_all; done)) | fail
                -- 15: (0 : Int) = y9
              · first | omega | rfl | (rw [show e0.den = j by omega]; rfl) | (have hg := sa_gok (X := X3) (Y := Y4) (n := m5) (by omega); have h8 := (gok_iff.1 hg).2; first | omega | (have e : j = m5 := (by omega); have hs := sa_par (n := m5) (by omega) h8; subst e; omega) | (have e : j = m5 := (by omega); have hs := sa_par (n := m5) (by omega) h8; subst e; simp_all; done)) | fail
              -- 16: y9 = 0
            · first | omega | rfl | (rw [show e0.den = j by omega]; rfl) | (have hg := sa_gok (X := X3) (Y := Y4) (n := m5) (by omega); have h8 := (gok_iff.1 hg).2; first | omega | (have e : j = m5 := (by omega); have hs := sa_par (n := m5) (by omega) h8; subst e; omega) | (have e : j = m5 := (by omega); have hs := sa_par (n := m5) (by omega) h8; subst e; simp_all; done)) | fail
          · intro j
            intro I1
            refine ⟨?_, ?_⟩
            · intro c47
              refine ⟨?_, ?_⟩
                -- 17: x8 = x8
              · first | omega | rfl | (rw [show e0.den = j by omega]; rfl) | (have hg := sa_gok (X := X3) (Y := Y4) (n := m5) (by omega); have h8 := (gok_iff.1 hg).2; first | omega | (have e : j = m5 := (by omega); have hs := sa_par (n := m5) (by omega) h8; subst e; omega) | (have e : j = m5 := (by omega); have hs := sa_par (n := m5) (by omega) h8; subst e; simp_all; done)) | fail
              · refine ⟨j + 1, ?_⟩
                try dsimp only
                refine ⟨?_, ?_, ?_⟩
                  -- 18: 0 ≤ y12 ∧ y12 ≤ x2.2.2
                · first | omega | rfl | (rw [show e0.den = j by omega]; rfl) | (have hg := sa_gok (X := X3) (Y := Y4) (n := m5) (by omega); have h8 := (gok_iff.1 hg).2; first | omega | (have e : j = m5 := (by omega); have hs := sa_par (n := m5) (by omega) h8; subst e; omega) | (have e : j = m5 := (by omega); have hs := sa_par (n := m5) (by omega) h8; subst e; simp_all; done)) | fail
                · refine ⟨?_, ⟨Int.le_refl _, fun _ => fun _ => rfl⟩, ⟨Int.le_refl _, fun _ => fun _ => ⟨rfl, rfl⟩⟩, ?_, ⟨Int.le_refl _, fun _ => fun _ => ⟨rfl, rfl⟩⟩, ?_⟩
                  · refine ⟨rfl, ?_, ?_, ?_⟩
                    · refine ⟨?_, ?_⟩
                        -- 19: (x8 + 1) = y12
                      · first | omega | rfl | (rw [show e0.den = j by omega]; rfl) | (have hg := sa_gok (X := X3) (Y := Y4) (n := m5) (by omega); have h8 := (gok_iff.1 hg).2; first | omega | (have e : j = m5 := (by omega); have hs := sa_par (n := m5) (by omega) h8; subst e; omega) | (have e : j = m5 := (by omega); have hs := sa_par (n := m5) (by omega) h8; subst e; simp_all; done)) | fail
                      · intro c48
                        -- 20: y12 ≤ 9
                        first | omega | rfl | (rw [show e0.den = j by omega]; rfl) | (have hg := sa_gok (X := X3) (Y := Y4) (n := m5) (by omega); have h8 := (gok_iff.1 hg).2; first | omega | (have e : j = m5 := (by omega); have hs := sa_par (n := m5) (by omega) h8; subst e; omega) | (have e : j = m5 := (by omega); have hs := sa_par (n := m5) (by omega) h8; subst e; simp_all; done)) | fail
                      -- 21: (x8 + 1) = y12
                    · first | omega | rfl | (rw [show e0.den = j by omega]; rfl) | (have hg := sa_gok (X := X3) (Y := Y4) (n := m5) (by omega); have h8 := (gok_iff.1 hg).2; first | omega | (have e : j = m5 := (by omega); have hs := sa_par (n := m5) (by omega) h8; subst e; omega) | (have e : j = m5 := (by omega); have hs := sa_par (n := m5) (by omega) h8; subst e; simp_all; done)) | fail
                    · intro c49
                      -- 22: 0 ≤ y12 ∧ y12 ≤ 9
                      first | omega | rfl | (rw [show e0.den = j by omega]; rfl) | (have hg := sa_gok (X := X3) (Y := Y4) (n := m5) (by omega); have h8 := (gok_iff.1 hg).2; first | omega | (have e : j = m5 := (by omega); have hs := sa_par (n := m5) (by omega) h8; subst e; omega) | (have e : j = m5 := (by omega); have hs := sa_par (n := m5) (by omega) h8; subst e; simp_all; done)) | fail
                    -- 23: (0 : Int) ≤ x8 ∧ y12 = x8 + 1
                  · first | omega | rfl | (rw [show e0.den = j by omega]; rfl) | (have hg := sa_gok (X := X3) (Y := Y4) (n := m5) (by omega); have h8 := (gok_iff.1 hg).2; first | omega | (have e : j = m5 := (by omega); have hs := sa_par (n := m5) (by omega) h8; subst e; omega) | (have e : j = m5 := (by omega); have hs := sa_par (n := m5) (by omega) h8; subst e; simp_all; done)) | fail
                  · intro e13
                    intro c50
                    refine ⟨?_, ?_⟩
                      -- 24: (2 : Int) = (two (e13.den))
                    · first | omega | rfl | (rw [show e13.den = j by omega]; rfl) | (have hg := sa_gok (X := X3) (Y := Y4) (n := m5) (by omega); have h8 := (gok_iff.1 hg).2; first | omega | (have e : j = m5 := (by omega); have hs := sa_par (n := m5) (by omega) h8; subst e; omega) | (have e : j = m5 := (by omega); have hs := sa_par (n := m5) (by omega) h8; subst e; simp_all; done)) | fail
                      -- 25: x8 = (idI (e13.den))
                    · first | omega | rfl | (rw [show e13.den = j by omega]; rfl) | (have hg := sa_gok (X := X3) (Y := Y4) (n := m5) (by omega); have h8 := (gok_iff.1 hg).2; first | omega | (have e : j = m5 := (by omega); have hs := sa_par (n := m5) (by omega) h8; subst e; omega) | (have e : j = m5 := (by omega); have hs := sa_par (n := m5) (by omega) h8; subst e; simp_all; done)) | fail
                  -- 26: (x2.2.2 - y12).toNat < (x2.2.2 - x8).toNat
                · first | omega | rfl | (rw [show e0.den = j by omega]; rfl) | (have hg := sa_gok (X := X3) (Y := Y4) (n := m5) (by omega); have h8 := (gok_iff.1 hg).2; first | omega | (have e : j = m5 := (by omega); have hs := sa_par (n := m5) (by omega) h8; subst e; omega) | (have e : j = m5 := (by omega); have hs := sa_par (n := m5) (by omega) h8; subst e; simp_all; done)) | fail
            · intro c51
              refine ⟨rfl, ⟨Int.le_refl _, fun _ => fun _ => ⟨rfl, rfl⟩⟩, ?_⟩
              intro c52
              refine ⟨?_, ?_⟩
              · intro c53
                refine ⟨?_, ?_⟩
                · intro c54
                  -- 27: (saF (two) (idI) x8) = (x2.2.2 + 1)
                  first | omega | rfl | (rw [show e0.den = j by omega]; rfl) | (have hg := sa_gok (X := X3) (Y := Y4) (n := m5) (by omega); have h8 := (gok_iff.1 hg).2; first | omega | (have e : j = m5 := (by omega); have hs := sa_par (n := m5) (by omega) h8; subst e; omega) | (have e : j = m5 := (by omega); have hs := sa_par (n := m5) (by omega) h8; subst e; simp_all; done)) | fail
                · intro c55
                  -- 28: False
                  first | omega | rfl | (rw [show e0.den = j by omega]; rfl) | (have hg := sa_gok (X := X3) (Y := Y4) (n := m5) (by omega); have h8 := (gok_iff.1 hg).2; first | omega | (have e : j = m5 := (by omega); have hs := sa_par (n := m5) (by omega) h8; subst e; omega) | (have e : j = m5 := (by omega); have hs := sa_par (n := m5) (by omega) h8; subst e; simp_all; done)) | fail
              · intro c56
                -- 29: False
                first | omega | rfl | (rw [show e0.den = j by omega]; rfl) | (have hg := sa_gok (X := X3) (Y := Y4) (n := m5) (by omega); have h8 := (gok_iff.1 hg).2; first | omega | (have e : j = m5 := (by omega); have hs := sa_par (n := m5) (by omega) h8; subst e; omega) | (have e : j = m5 := (by omega); have hs := sa_par (n := m5) (by omega) h8; subst e; simp_all; done)) | fail
def c_l_FnArrangementParallel (C : Int → Int) (n : Int) : Cn Try.prog := ⟨_, _, _, _, _, l_FnArrangementParallel C n⟩
end Go.Proofs.Ytbldachljmhfjaa
