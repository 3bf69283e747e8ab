/- FnExactCollinear: the walk. -/
import Derived.Test.YtpnjopppclmfkaaK31
set_option linter.unusedSimpArgs false
set_option linter.unusedVariables false
set_option maxRecDepth 100000
namespace Go.Proofs.Ytpnjopppclmfkaa
open Go.Sym
theorem iff_no {b : Bool} (h : b = true ↔ b = false) : False := by cases b <;> simp at h
theorem l_FnExactCollinear (X : Int → Int) (Y : Int → Int) (n : Int) : RunsTo Try.prog 4 [(.sl 0 2 (.lit 0) (.v fun _ => n) 9223372036854775807)] [some ⟨70, 2, false, (.sym (.v fun _ => n) fun e => [(.int .i64 (.v fun _ => (X (e.den))) (-9223372036854775808) 9223372036854775807), (.int .i64 (.v fun _ => (Y (e.den))) (-9223372036854775808) 9223372036854775807)])⟩] (.bool (.lit true)) [none] := by
  refine RunsTo.go env Try.func4 rfl Try.call4 rfl rfl (fun _ _ => (.callF (c_l_szPointS X Y n 1048576) (.ite .ret (.callF (c_l_toPointS X Y n) (.call (c_s_Collinear X Y n) (.callF (c_l_toPointS X Y n) (.call (c_i_Collinear X Y n) (.ite .ret (.callF (c_l_toPointS X Y n) (.call (c_l_eqPointS X Y n X Y n) (.ite .ret .ret))))))))))) (G := (0 ≤ n ∧ n ≤ 9223372036854775807) → (∀ e9 : E, ((0 ≤ e9.den ∧ e9.den < n) → (((-9223372036854775808) ≤ ((X (e9.den))) ∧ ((X (e9.den))) ≤ 9223372036854775807) ∧ ((-9223372036854775808) ≤ ((Y (e9.den))) ∧ ((Y (e9.den))) ≤ 9223372036854775807)))) → (((n = n) ∧ ((1048576 : Int) = 1048576)) ∧ (((n ≤ n) ∧ (∀ e1 : E, ((0 ≤ e1.den ∧ e1.den < n) → ((((X (e1.den))) = ((X (e1.den)))) ∧ (((Y (e1.den))) = ((Y (e1.den)))))))) ∧ (((-1) ≤ (if 1048576 - n < 0 then -1 else 1048576 - n) ∧ (if 1048576 - n < 0 then -1 else 1048576 - n) ≤ 1048576) → ((0 ≤ (if 1048576 - n < 0 then -1 else 1048576 - n)) → (((n = n) ∧ ((n ≤ 9223372036854775807) → (n ≤ 1048576))) ∧ (((n ≤ n) ∧ (∀ e2 : E, ((0 ≤ e2.den ∧ e2.den < n) → ((((X (e2.den))) = ((X (e2.den)))) ∧ (((Y (e2.den))) = ((Y (e2.den)))))))) ∧ ((0 ≤ n ∧ n ≤ 1048576) → ((n = n) ∧ (((n ≤ n) ∧ (∀ e3 : E, ((0 ≤ e3.den ∧ e3.den < n) → ((((X (e3.den))) = ((X (e3.den)))) ∧ (((Y (e3.den))) = ((Y (e3.den)))))))) ∧ (((n = n) ∧ ((n ≤ 9223372036854775807) → (n ≤ 1048576))) ∧ (((n ≤ n) ∧ (∀ e4 : E, ((0 ≤ e4.den ∧ e4.den < n) → ((((X (e4.den))) = ((X (e4.den)))) ∧ (((Y (e4.den))) = ((Y (e4.den)))))))) ∧ ((0 ≤ n ∧ n ≤ 1048576) → ((n = n) ∧ (((n ≤ n) ∧ (∀ e5 : E, ((0 ≤ e5.den ∧ e5.den < n) → ((((X (e5.den))) = ((X (e5.den)))) ∧ (((Y (e5.den))) = ((Y (e5.den)))))))) ∧ ((((((listB X Y n && icB X Y n) = true) ↔ ((listB X Y n && icB X Y n) = false))) → (False)) ∧ (((((listB X Y n && icB X Y n) = true) ↔ ((listB X Y n && icB X Y n) = true))) → (((n = n) ∧ ((n ≤ 9223372036854775807) → (n ≤ 1048576))) ∧ (((n ≤ n) ∧ (∀ e6 : E, ((0 ≤ e6.den ∧ e6.den < n) → ((((X (e6.den))) = ((X (e6.den)))) ∧ (((Y (e6.den))) = ((Y (e6.den)))))))) ∧ ((0 ≤ n ∧ n ≤ 1048576) → (((n = n) ∧ (n = n)) ∧ ((((n ≤ n) ∧ (∀ e8 : E, ((0 ≤ e8.den ∧ e8.den < n) → ((((X (e8.den))) = ((X (e8.den)))) ∧ (((Y (e8.den))) = ((Y (e8.den)))))))) ∧ ((n ≤ n) ∧ (∀ e7 : E, ((0 ≤ e7.den ∧ e7.den < n) → ((((X (e7.den))) = ((X (e7.den)))) ∧ (((Y (e7.den))) = ((Y (e7.den))))))))) ∧ (((eqP X Y n X Y n) = false) → (False)))))))))))))))))))))))) (by kernel_rfl) ?_
  intro h1 h2
  refine ⟨⟨rfl, rfl⟩, ⟨Int.le_refl _, fun _ => fun _ => ⟨rfl, rfl⟩⟩, ?_⟩
  intro c10
  intro c11
  refine ⟨?_, ⟨Int.le_refl _, fun _ => fun _ => ⟨rfl, rfl⟩⟩, ?_⟩
  · refine ⟨rfl, ?_⟩
    intro c12
    -- 1: n ≤ 1048576
    first | rfl | omega | exact eqB_refl _ _ | exact eqP_refl _ _ _ | exact iff_no (by assumption) | (simp_all [eqB_refl, eqP_refl]; done) | (simp_all [eqB_refl, eqP_refl]; omega) | fail
  · intro c13
    refine ⟨rfl, ⟨Int.le_refl _, fun _ => fun _ => ⟨rfl, rfl⟩⟩, ?_, ⟨Int.le_refl _, fun _ => fun _ => ⟨rfl, rfl⟩⟩, ?_⟩
    · refine ⟨rfl, ?_⟩
      intro c14
      -- 2: n ≤ 1048576
      first | rfl | omega | exact eqB_refl _ _ | exact eqP_refl _ _ _ | exact iff_no (by assumption) | (simp_all [eqB_refl, eqP_refl]; done) | (simp_all [eqB_refl, eqP_refl]; omega) | fail
    · intro c15
      refine ⟨rfl, ⟨Int.le_refl _, fun _ => fun _ => ⟨rfl, rfl⟩⟩, ?_, ?_⟩
      · intro c16
        -- 3: False
        first | rfl | omega | exact eqB_refl _ _ | exact eqP_refl _ _ _ | exact iff_no (by assumption) | (simp_all [eqB_refl, eqP_refl]; done) | (simp_all [eqB_refl, eqP_refl]; omega) | fail
      · intro c17
        refine ⟨?_, ⟨Int.le_refl _, fun _ => fun _ => ⟨rfl, rfl⟩⟩, ?_⟩
        · refine ⟨rfl, ?_⟩
          intro c18
          -- 4: n ≤ 1048576
          first | rfl | omega | exact eqB_refl _ _ | exact eqP_refl _ _ _ | exact iff_no (by assumption) | (simp_all [eqB_refl, eqP_refl]; done) | (simp_all [eqB_refl, eqP_refl]; omega) | fail
        · intro c19
          refine ⟨⟨rfl, rfl⟩, ⟨⟨Int.le_refl _, fun _ => fun _ => ⟨rfl, rfl⟩⟩, ⟨Int.le_refl _, fun _ => fun _ => ⟨rfl, rfl⟩⟩⟩, ?_⟩
          intro c20
          -- 5: False
          first | rfl | omega | exact eqB_refl _ _ | exact eqP_refl _ _ _ | exact iff_no (by assumption) | (simp_all [eqB_refl, eqP_refl]; done) | (simp_all [eqB_refl, eqP_refl]; omega) | fail
def c_l_FnExactCollinear (X : Int → Int) (Y : Int → Int) (n : Int) : Cn Try.prog := ⟨_, _, _, _, _, l_FnExactCollinear X Y n⟩
end Go.Proofs.Ytpnjopppclmfkaa
