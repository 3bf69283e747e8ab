/- FnExactSortPoints: the walk. -/
import Derived.Test.YtpnjopppclmfkaaK30
set_option linter.unusedSimpArgs false
set_option linter.unusedVariables false
set_option maxRecDepth 100000
namespace Go.Proofs.Ytpnjopppclmfkaa
open Go.Sym
theorem l_FnExactSortPoints (X : Int → Int) (Y : Int → Int) (n : Int) : RunsTo Try.prog 3 [(.sl 0 2 (.lit 0) (.v fun _ => n) 9223372036854775807)] [some ⟨70, 2, false, (.sym (.v fun _ => n) fun e => [(.int .i64 (.v fun _ => (X (e.den))) (-9223372036854775808) 9223372036854775807), (.int .i64 (.v fun _ => (Y (e.den))) (-9223372036854775808) 9223372036854775807)])⟩] (.bool (.lit true)) [none] := by
  refine RunsTo.go env Try.func3 rfl Try.call3 rfl rfl (fun _ _ => (.callF (c_l_szPointS X Y n 1048576) (.ite .ret (.callF (c_l_toPointS X Y n) (.callF (c_s_SortPoints X Y n) (.callF (c_l_toPointS X Y n) (.callF (c_i_SortPoints X Y n) (.call (c_l_eqPointS (iX X Y n) (iY X Y n) (spN X Y n) (iX X Y n) (iY X Y n) (spN X Y n)) (.ite .ret (.callF (c_l_toPointS X Y n) (.call (c_l_eqPointS X Y n X Y n) (.ite .ret (.callF (c_l_markPointS X Y n 1) (.ite .ret (.call (c_l_eqPointS (iX X Y n) (iY X Y n) (spN X Y n) (iX X Y n) (iY X Y n) (spN X Y n)) (.ite .ret (.callF (c_l_markPointS (iX X Y n) (iY X Y n) (spN X Y n) 1) (.callF (c_l_heldPointS (fun ι => 1 + 2 * (ι)) (fun ι => 1 + 2 * (ι) + 1) (spN X Y n) 1) (.ite .ret (.ite .ret (.callF (c_l_toPointS X Y n) (.callF (c_i_SortPoints X Y n) (.call (c_l_eqPointS (iX X Y n) (iY X Y n) (spN X Y n) (iX X Y n) (iY X Y n) (spN X Y n)) (.ite .ret (.callF (c_l_heldPointS ((fun ι => (1 + 2 * ((ι))))) ((fun ι => (1 + 2 * ((ι)) + 1))) (spN X Y n) 1) (.ite .ret (.ite .ret .ret))))))))))))))))))))))))))) (G := (0 ≤ n ∧ n ≤ 9223372036854775807) → (∀ e21 : E, ((0 ≤ e21.den ∧ e21.den < n) → (((-9223372036854775808) ≤ ((X (e21.den))) ∧ ((X (e21.den))) ≤ 9223372036854775807) ∧ ((-9223372036854775808) ≤ ((Y (e21.den))) ∧ ((Y (e21.den))) ≤ 9223372036854775807)))) → (((n = n) ∧ ((1048576 : Int) = 1048576)) ∧ (((n ≤ n) ∧ (∀ e1 : E, ((0 ≤ e1.den ∧ e1.den < n) → ((((X (e1.den))) = ((X (e1.den)))) ∧ (((Y (e1.den))) = ((Y (e1.den)))))))) ∧ (((-1) ≤ (if 1048576 - n < 0 then -1 else 1048576 - n) ∧ (if 1048576 - n < 0 then -1 else 1048576 - n) ≤ 1048576) → ((0 ≤ (if 1048576 - n < 0 then -1 else 1048576 - n)) → (((n = n) ∧ ((n ≤ 9223372036854775807) → (n ≤ 1048576))) ∧ (((n ≤ n) ∧ (∀ e2 : E, ((0 ≤ e2.den ∧ e2.den < n) → ((((X (e2.den))) = ((X (e2.den)))) ∧ (((Y (e2.den))) = ((Y (e2.den)))))))) ∧ ((0 ≤ n ∧ n ≤ 1048576) → ((n = n) ∧ (((n ≤ n) ∧ (∀ e3 : E, ((0 ≤ e3.den ∧ e3.den < n) → ((((X (e3.den))) = ((X (e3.den)))) ∧ (((Y (e3.den))) = ((Y (e3.den)))))))) ∧ ((0 ≤ (spN X Y n) ∧ (spN X Y n) ≤ 1048576) → (((n = n) ∧ ((n ≤ 9223372036854775807) → (n ≤ 1048576))) ∧ (((n ≤ n) ∧ (∀ e4 : E, ((0 ≤ e4.den ∧ e4.den < n) → ((((X (e4.den))) = ((X (e4.den)))) ∧ (((Y (e4.den))) = ((Y (e4.den)))))))) ∧ ((0 ≤ n ∧ n ≤ 1048576) → ((n = n) ∧ (((n ≤ n) ∧ (∀ e5 : E, ((0 ≤ e5.den ∧ e5.den < n) → ((((X (e5.den))) = ((X (e5.den)))) ∧ (((Y (e5.den))) = ((Y (e5.den)))))))) ∧ ((0 ≤ (spN X Y n) ∧ (spN X Y n) ≤ 1048576) → ((((spN X Y n) = (spN X Y n)) ∧ ((spN X Y n) = (spN X Y n))) ∧ (((((spN X Y n) ≤ (spN X Y n)) ∧ (∀ e7 : E, ((0 ≤ e7.den ∧ e7.den < (spN X Y n)) → (((iX X Y n (e7.den)) = (iX X Y n ((e7.den)))) ∧ ((iY X Y n (e7.den)) = (iY X Y n ((e7.den)))))))) ∧ (((spN X Y n) ≤ (spN X Y n)) ∧ (∀ e6 : E, ((0 ≤ e6.den ∧ e6.den < (spN X Y n)) → (((iX X Y n (e6.den)) = (iX X Y n ((e6.den)))) ∧ ((iY X Y n (e6.den)) = (iY X Y n ((e6.den))))))))) ∧ ((((eqP (iX X Y n) (iY X Y n) (spN X Y n) (iX X Y n) (iY X Y n) (spN X Y n)) = false) → (False)) ∧ (((eqP (iX X Y n) (iY X Y n) (spN X Y n) (iX X Y n) (iY X Y n) (spN X Y n)) = true) → (((n = n) ∧ ((n ≤ 9223372036854775807) → (n ≤ 1048576))) ∧ (((n ≤ n) ∧ (∀ e8 : E, ((0 ≤ e8.den ∧ e8.den < n) → ((((X (e8.den))) = ((X (e8.den)))) ∧ (((Y (e8.den))) = ((Y (e8.den)))))))) ∧ ((0 ≤ n ∧ n ≤ 1048576) → (((n = n) ∧ (n = n)) ∧ ((((n ≤ n) ∧ (∀ e10 : E, ((0 ≤ e10.den ∧ e10.den < n) → ((((X (e10.den))) = ((X (e10.den)))) ∧ (((Y (e10.den))) = ((Y (e10.den)))))))) ∧ ((n ≤ n) ∧ (∀ e9 : E, ((0 ≤ e9.den ∧ e9.den < n) → ((((X (e9.den))) = ((X (e9.den)))) ∧ (((Y (e9.den))) = ((Y (e9.den))))))))) ∧ ((((eqP X Y n X Y n) = false) → (False)) ∧ (((eqP X Y n X Y n) = true) → (((n = n) ∧ ((1 : Int) = 1)) ∧ (((n ≤ n) ∧ (∀ e11 : E, ((0 ≤ e11.den ∧ e11.den < n) → ((((X (e11.den))) = ((X (e11.den)))) ∧ (((Y (e11.den))) = ((Y (e11.den)))))))) ∧ ((0 ≤ (1 + 2 * n) ∧ (1 + 2 * n) ≤ 4194304) → ((((1 + 2 * n) < 0) → (False)) ∧ ((0 ≤ (1 + 2 * n)) → ((((spN X Y n) = (spN X Y n)) ∧ ((spN X Y n) = (spN X Y n))) ∧ (((((spN X Y n) ≤ (spN X Y n)) ∧ (∀ e13 : E, ((0 ≤ e13.den ∧ e13.den < (spN X Y n)) → (((iX X Y n ((e13.den))) = (((iX X Y n (((e13.den))))))) ∧ ((iY X Y n ((e13.den))) = (((iY X Y n (((e13.den))))))))))) ∧ (((spN X Y n) ≤ (spN X Y n)) ∧ (∀ e12 : E, ((0 ≤ e12.den ∧ e12.den < (spN X Y n)) → (((iX X Y n ((e12.den))) = (((iX X Y n (((e12.den))))))) ∧ ((iY X Y n ((e12.den))) = (((iY X Y n (((e12.den)))))))))))) ∧ ((((eqP (iX X Y n) (iY X Y n) (spN X Y n) (iX X Y n) (iY X Y n) (spN X Y n)) = false) → (False)) ∧ (((eqP (iX X Y n) (iY X Y n) (spN X Y n) (iX X Y n) (iY X Y n) (spN X Y n)) = true) → ((((spN X Y n) = (spN X Y n)) ∧ ((1 : Int) = 1)) ∧ ((((spN X Y n) ≤ (spN X Y n)) ∧ (∀ e14 : E, ((0 ≤ e14.den ∧ e14.den < (spN X Y n)) → (((((iX X Y n (((e14.den)))))) = ((((iX X Y n ((((e14.den))))))))) ∧ ((((iY X Y n (((e14.den)))))) = ((((iY X Y n ((((e14.den))))))))))))) ∧ ((0 ≤ (1 + 2 * (spN X Y n)) ∧ (1 + 2 * (spN X Y n)) ≤ 4194304) → ((((spN X Y n) = (spN X Y n)) ∧ ((1 : Int) = 1)) ∧ ((((spN X Y n) ≤ (spN X Y n)) ∧ (∀ e15 : E, ((0 ≤ e15.den ∧ e15.den < (spN X Y n)) → (((1 + 2 * (e15.den)) = (1 + 2 * ((e15.den)))) ∧ ((1 + 2 * (e15.den) + 1) = (1 + 2 * ((e15.den)) + 1)))))) ∧ (((-1) ≤ (if heldP (fun ι => 1 + 2 * (ι)) (fun ι => 1 + 2 * (ι) + 1) (spN X Y n) 1 = true then 1 + 2 * (spN X Y n) else -1) ∧ (if heldP (fun ι => 1 + 2 * (ι)) (fun ι => 1 + 2 * (ι) + 1) (spN X Y n) 1 = true then 1 + 2 * (spN X Y n) else -1) ≤ 4194304) → ((((if heldP (fun ι => 1 + 2 * (ι)) (fun ι => 1 + 2 * (ι) + 1) (spN X Y n) 1 = true then 1 + 2 * (spN X Y n) else -1) < 0) → (False)) ∧ ((0 ≤ (if heldP (fun ι => 1 + 2 * (ι)) (fun ι => 1 + 2 * (ι) + 1) (spN X Y n) 1 = true then 1 + 2 * (spN X Y n) else -1)) → ((((if heldP (fun ι => 1 + 2 * (ι)) (fun ι => 1 + 2 * (ι) + 1) (spN X Y n) 1 = true then 1 + 2 * (spN X Y n) else -1) ≠ (1 + 2 * (spN X Y n))) → (False)) ∧ (((if heldP (fun ι => 1 + 2 * (ι)) (fun ι => 1 + 2 * (ι) + 1) (spN X Y n) 1 = true then 1 + 2 * (spN X Y n) else -1) = (1 + 2 * (spN X Y n))) → (((n = n) ∧ ((n ≤ 9223372036854775807) → (n ≤ 1048576))) ∧ (((n ≤ n) ∧ (∀ e16 : E, ((0 ≤ e16.den ∧ e16.den < n) → ((((X (e16.den))) = ((X (e16.den)))) ∧ (((Y (e16.den))) = ((Y (e16.den)))))))) ∧ ((0 ≤ n ∧ n ≤ 1048576) → ((n = n) ∧ (((n ≤ n) ∧ (∀ e17 : E, ((0 ≤ e17.den ∧ e17.den < n) → ((((X (e17.den))) = ((X (e17.den)))) ∧ (((Y (e17.den))) = ((Y (e17.den)))))))) ∧ ((0 ≤ (spN X Y n) ∧ (spN X Y n) ≤ 1048576) → ((((spN X Y n) = (spN X Y n)) ∧ ((spN X Y n) = (spN X Y n))) ∧ (((((spN X Y n) ≤ (spN X Y n)) ∧ (∀ e19 : E, ((0 ≤ e19.den ∧ e19.den < (spN X Y n)) → (((iX X Y n (e19.den)) = (iX X Y n ((e19.den)))) ∧ ((iY X Y n (e19.den)) = (iY X Y n ((e19.den)))))))) ∧ (((spN X Y n) ≤ (spN X Y n)) ∧ (∀ e18 : E, ((0 ≤ e18.den ∧ e18.den < (spN X Y n)) → (((((iX X Y n (((e18.den)))))) = ((((iX X Y n ((((e18.den))))))))) ∧ ((((iY X Y n (((e18.den)))))) = ((((iY X Y n ((((e18.den)))))))))))))) ∧ ((((eqP (iX X Y n) (iY X Y n) (spN X Y n) (iX X Y n) (iY X Y n) (spN X Y n)) = false) → (False)) ∧ (((eqP (iX X Y n) (iY X Y n) (spN X Y n) (iX X Y n) (iY X Y n) (spN X Y n)) = true) → ((((spN X Y n) = (spN X Y n)) ∧ ((1 : Int) = 1)) ∧ ((((spN X Y n) ≤ (spN X Y n)) ∧ (∀ e20 : E, ((0 ≤ e20.den ∧ e20.den < (spN X Y n)) → (((1 + 2 * ((e20.den))) = (((1 + 2 * (((e20.den))))))) ∧ ((1 + 2 * ((e20.den)) + 1) = (((1 + 2 * (((e20.den))) + 1)))))))) ∧ (((-1) ≤ (if heldP ((fun ι => (1 + 2 * ((ι))))) ((fun ι => (1 + 2 * ((ι)) + 1))) (spN X Y n) 1 = true then 1 + 2 * (spN X Y n) else -1) ∧ (if heldP ((fun ι => (1 + 2 * ((ι))))) ((fun ι => (1 + 2 * ((ι)) + 1))) (spN X Y n) 1 = true then 1 + 2 * (spN X Y n) else -1) ≤ 4194304) → ((((if heldP ((fun ι => (1 + 2 * ((ι))))) ((fun ι => (1 + 2 * ((ι)) + 1))) (spN X Y n) 1 = true then 1 + 2 * (spN X Y n) else -1) < 0) → (False)) ∧ ((0 ≤ (if heldP ((fun ι => (1 + 2 * ((ι))))) ((fun ι => (1 + 2 * ((ι)) + 1))) (spN X Y n) 1 = true then 1 + 2 * (spN X Y n) else -1)) → (((if heldP ((fun ι => (1 + 2 * ((ι))))) ((fun ι => (1 + 2 * ((ι)) + 1))) (spN X Y n) 1 = true then 1 + 2 * (spN X Y n) else -1) ≠ (1 + 2 * (spN X Y n))) → (False)))))))))))))))))))))))))))))))))))))))))))))))))))))))))))))))) (by kernel_rfl) ?_
  intro h1 h2
  refine ⟨⟨rfl, rfl⟩, ⟨Int.le_refl _, fun _ => fun _ => ⟨rfl, rfl⟩⟩, ?_⟩
  intro c22
  intro c23
  refine ⟨?_, ⟨Int.le_refl _, fun _ => fun _ => ⟨rfl, rfl⟩⟩, ?_⟩
  · refine ⟨rfl, ?_⟩
    intro c24
    -- 1: n ≤ 1048576
    first | rfl | omega | exact eqB_refl _ _ | exact eqP_refl _ _ _ | (simp_all [eqB_refl, eqP_refl, heldP_mark]; done) | (simp_all [eqB_refl, eqP_refl, heldP_mark]; omega) | fail
  · intro c25
    refine ⟨rfl, ⟨Int.le_refl _, fun _ => fun _ => ⟨rfl, rfl⟩⟩, ?_⟩
    intro c26
    refine ⟨?_, ⟨Int.le_refl _, fun _ => fun _ => ⟨rfl, rfl⟩⟩, ?_⟩
    · refine ⟨rfl, ?_⟩
      intro c27
      -- 2: n ≤ 1048576
      first | rfl | omega | exact eqB_refl _ _ | exact eqP_refl _ _ _ | (simp_all [eqB_refl, eqP_refl, heldP_mark]; done) | (simp_all [eqB_refl, eqP_refl, heldP_mark]; omega) | fail
    · intro c28
      refine ⟨rfl, ⟨Int.le_refl _, fun _ => fun _ => ⟨rfl, rfl⟩⟩, ?_⟩
      intro c29
      refine ⟨⟨rfl, rfl⟩, ⟨⟨Int.le_refl _, fun _ => fun _ => ⟨rfl, rfl⟩⟩, ⟨Int.le_refl _, fun _ => fun _ => ⟨rfl, rfl⟩⟩⟩, ?_, ?_⟩
      · intro c30
        -- 3: False
        first | rfl | omega | exact eqB_refl _ _ | exact eqP_refl _ _ _ | (simp_all [eqB_refl, eqP_refl, heldP_mark]; done) | (simp_all [eqB_refl, eqP_refl, heldP_mark]; omega) | fail
      · intro c31
        refine ⟨?_, ⟨Int.le_refl _, fun _ => fun _ => ⟨rfl, rfl⟩⟩, ?_⟩
        · refine ⟨rfl, ?_⟩
          intro c32
          -- 4: n ≤ 1048576
          first | rfl | omega | exact eqB_refl _ _ | exact eqP_refl _ _ _ | (simp_all [eqB_refl, eqP_refl, heldP_mark]; done) | (simp_all [eqB_refl, eqP_refl, heldP_mark]; omega) | fail
        · intro c33
          refine ⟨⟨rfl, rfl⟩, ⟨⟨Int.le_refl _, fun _ => fun _ => ⟨rfl, rfl⟩⟩, ⟨Int.le_refl _, fun _ => fun _ => ⟨rfl, rfl⟩⟩⟩, ?_, ?_⟩
          · intro c34
            -- 5: False
            first | rfl | omega | exact eqB_refl _ _ | exact eqP_refl _ _ _ | (simp_all [eqB_refl, eqP_refl, heldP_mark]; done) | (simp_all [eqB_refl, eqP_refl, heldP_mark]; omega) | fail
          · intro c35
            refine ⟨⟨rfl, rfl⟩, ⟨Int.le_refl _, fun _ => fun _ => ⟨rfl, rfl⟩⟩, ?_⟩
            intro c36
            refine ⟨?_, ?_⟩
            · intro c37
              -- 6: False
              first | rfl | omega | exact eqB_refl _ _ | exact eqP_refl _ _ _ | (simp_all [eqB_refl, eqP_refl, heldP_mark]; done) | (simp_all [eqB_refl, eqP_refl, heldP_mark]; omega) | fail
            · intro c38
              refine ⟨⟨rfl, rfl⟩, ⟨⟨Int.le_refl _, fun _ => fun _ => ⟨rfl, rfl⟩⟩, ⟨Int.le_refl _, fun _ => fun _ => ⟨rfl, rfl⟩⟩⟩, ?_, ?_⟩
              · intro c39
                -- 7: False
                first | rfl | omega | exact eqB_refl _ _ | exact eqP_refl _ _ _ | (simp_all [eqB_refl, eqP_refl, heldP_mark]; done) | (simp_all [eqB_refl, eqP_refl, heldP_mark]; omega) | fail
              · intro c40
                refine ⟨⟨rfl, rfl⟩, ⟨Int.le_refl _, fun _ => fun _ => ⟨rfl, rfl⟩⟩, ?_⟩
                intro c41
                refine ⟨⟨rfl, rfl⟩, ⟨Int.le_refl _, fun _ => fun _ => ⟨rfl, rfl⟩⟩, ?_⟩
                intro c42
                refine ⟨?_, ?_⟩
                · intro c43
                  -- 8: False
                  first | rfl | omega | exact eqB_refl _ _ | exact eqP_refl _ _ _ | (simp_all [eqB_refl, eqP_refl, heldP_mark]; done) | (simp_all [eqB_refl, eqP_refl, heldP_mark]; omega) | fail
                · intro c44
                  refine ⟨?_, ?_⟩
                  · intro c45
                    -- 9: False
                    first | rfl | omega | exact eqB_refl _ _ | exact eqP_refl _ _ _ | (simp_all [eqB_refl, eqP_refl, heldP_mark]; done) | (simp_all [eqB_refl, eqP_refl, heldP_mark]; omega) | fail
                  · intro c46
                    refine ⟨?_, ⟨Int.le_refl _, fun _ => fun _ => ⟨rfl, rfl⟩⟩, ?_⟩
                    · refine ⟨rfl, ?_⟩
                      intro c47
                      -- 10: n ≤ 1048576
                      first | rfl | omega | exact eqB_refl _ _ | exact eqP_refl _ _ _ | (simp_all [eqB_refl, eqP_refl, heldP_mark]; done) | (simp_all [eqB_refl, eqP_refl, heldP_mark]; omega) | fail
                    · intro c48
                      refine ⟨rfl, ⟨Int.le_refl _, fun _ => fun _ => ⟨rfl, rfl⟩⟩, ?_⟩
                      intro c49
                      refine ⟨⟨rfl, rfl⟩, ⟨⟨Int.le_refl _, fun _ => fun _ => ⟨rfl, rfl⟩⟩, ⟨Int.le_refl _, fun _ => fun _ => ⟨rfl, rfl⟩⟩⟩, ?_, ?_⟩
                      · intro c50
                        -- 11: False
                        first | rfl | omega | exact eqB_refl _ _ | exact eqP_refl _ _ _ | (simp_all [eqB_refl, eqP_refl, heldP_mark]; done) | (simp_all [eqB_refl, eqP_refl, heldP_mark]; omega) | fail
                      · intro c51
                        refine ⟨⟨rfl, rfl⟩, ⟨Int.le_refl _, fun _ => fun _ => ⟨rfl, rfl⟩⟩, ?_⟩
                        intro c52
                        refine ⟨?_, ?_⟩
                        · intro c53
                          -- 12: False
                          first | rfl | omega | exact eqB_refl _ _ | exact eqP_refl _ _ _ | (simp_all [eqB_refl, eqP_refl, heldP_mark]; done) | (simp_all [eqB_refl, eqP_refl, heldP_mark]; omega) | fail
                        · intro c54
                          intro c55
                          -- 13: False
                          first | rfl | omega | exact eqB_refl _ _ | exact eqP_refl _ _ _ | (simp_all [eqB_refl, eqP_refl, heldP_mark]; done) | (simp_all [eqB_refl, eqP_refl, heldP_mark]; omega) | fail
def c_l_FnExactSortPoints (X : Int → Int) (Y : Int → Int) (n : Int) : Cn Try.prog := ⟨_, _, _, _, _, l_FnExactSortPoints X Y n⟩
end Go.Proofs.Ytpnjopppclmfkaa
