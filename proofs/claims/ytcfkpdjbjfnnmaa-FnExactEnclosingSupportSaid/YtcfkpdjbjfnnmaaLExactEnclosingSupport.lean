/- FnExactEnclosingSupport: the walk. -/
import Derived.Test.YtcfkpdjbjfnnmaaK82
set_option linter.unusedSimpArgs false
set_option linter.unusedVariables false
set_option maxRecDepth 100000
namespace Go.Proofs.Ytcfkpdjbjfnnmaa
open Go.Sym
theorem l_FnExactEnclosingSupport (X : Int → Int) (Y : Int → Int) (n : Int) : RunsTo Try.prog 4 [(.sl 0 2 (.lit 0) (.v fun _ => n) 9223372036854775807)] [some ⟨69, 2, false, (.sym (.v fun _ => n) fun e => [(.int .i64 (.v fun _ => (X (e.den))) (-9223372036854775808) 9223372036854775807), (.int .i64 (.v fun _ => (Y (e.den))) (-9223372036854775808) 9223372036854775807)])⟩] (.bool (.lit true)) [none] := by
  refine RunsTo.go env Try.func4 rfl Try.call4 rfl rfl (fun _ _ => (.callF (c_l_szPointS X Y n 1048576) (.ite .ret (.callF (c_l_toPointS X Y n) (.callF (c_s_EnclosingSupport X Y n) (.callF (c_l_toPointS X Y n) (.callF (c_i_EnclosingSupport X Y n) (.call (c_l_eqIntS (esA X Y n) (esM X Y n) (esA X Y n) (esM X Y n)) (.ite .ret (.callF (c_l_toPointS X Y n) (.call (c_l_eqPointS X Y n X Y n) (.ite .ret (.callF (c_l_markPointS X Y n 1) (.ite .ret (.call (c_l_eqIntS (esA X Y n) (esM X Y n) (esA X Y n) (esM X Y n)) (.ite .ret (.callF (c_l_markIntS (esA X Y n) (esM X Y n) 1) (.callF (c_l_heldIntS (fun ι => 1 + (ι)) (esM X Y n) 1) (.ite .ret (.ite .ret (.callF (c_l_toPointS X Y n) (.callF (c_i_EnclosingSupport X Y n) (.call (c_l_eqIntS (esA X Y n) (esM X Y n) (esA X Y n) (esM X Y n)) (.ite .ret (.callF (c_l_heldIntS ((fun ι => (1 + ((ι))))) (esM X Y n) 1) (.ite .ret (.ite .ret .ret))))))))))))))))))))))))))) (G := (0 ≤ n ∧ n ≤ 9223372036854775807) → (∀ e21 : E, ((0 ≤ e21.den ∧ e21.den < n) → (((-9223372036854775808) ≤ ((X (e21.den))) ∧ ((X (e21.den))) ≤ 9223372036854775807) ∧ ((-9223372036854775808) ≤ ((Y (e21.den))) ∧ ((Y (e21.den))) ≤ 9223372036854775807)))) → (((n = n) ∧ ((1048576 : Int) = 1048576)) ∧ (((n ≤ n) ∧ (∀ e1 : E, ((0 ≤ e1.den ∧ e1.den < n) → ((((X (e1.den))) = ((X (e1.den)))) ∧ (((Y (e1.den))) = ((Y (e1.den)))))))) ∧ (((-1) ≤ (if 1048576 - n < 0 then -1 else 1048576 - n) ∧ (if 1048576 - n < 0 then -1 else 1048576 - n) ≤ 1048576) → ((0 ≤ (if 1048576 - n < 0 then -1 else 1048576 - n)) → (((n = n) ∧ ((n ≤ 9223372036854775807) → (n ≤ 1048576))) ∧ (((n ≤ n) ∧ (∀ e2 : E, ((0 ≤ e2.den ∧ e2.den < n) → ((((X (e2.den))) = ((X (e2.den)))) ∧ (((Y (e2.den))) = ((Y (e2.den)))))))) ∧ ((0 ≤ n ∧ n ≤ 1048576) → ((n = n) ∧ (((n ≤ n) ∧ (∀ e3 : E, ((0 ≤ e3.den ∧ e3.den < n) → ((((X (e3.den))) = ((X (e3.den)))) ∧ (((Y (e3.den))) = ((Y (e3.den)))))))) ∧ ((0 ≤ (esM X Y n) ∧ (esM X Y n) ≤ 3) → (((n = n) ∧ ((n ≤ 9223372036854775807) → (n ≤ 1048576))) ∧ (((n ≤ n) ∧ (∀ e4 : E, ((0 ≤ e4.den ∧ e4.den < n) → ((((X (e4.den))) = ((X (e4.den)))) ∧ (((Y (e4.den))) = ((Y (e4.den)))))))) ∧ ((0 ≤ n ∧ n ≤ 1048576) → ((n = n) ∧ (((n ≤ n) ∧ (∀ e5 : E, ((0 ≤ e5.den ∧ e5.den < n) → ((((X (e5.den))) = ((X (e5.den)))) ∧ (((Y (e5.den))) = ((Y (e5.den)))))))) ∧ ((0 ≤ (esM X Y n) ∧ (esM X Y n) ≤ 3) → ((((esM X Y n) = (esM X Y n)) ∧ ((esM X Y n) = (esM X Y n))) ∧ (((((esM X Y n) ≤ (esM X Y n)) ∧ (∀ e7 : E, ((0 ≤ e7.den ∧ e7.den < (esM X Y n)) → (((esA X Y n (e7.den)) = (esA X Y n ((e7.den)))) ∧ (((-9223372036854775808) ≤ (esA X Y n (e7.den)) ∧ (esA X Y n (e7.den)) ≤ 9223372036854775807) → (0 ≤ (esA X Y n ((e7.den))) ∧ (esA X Y n ((e7.den))) ≤ 1048576)))))) ∧ (((esM X Y n) ≤ (esM X Y n)) ∧ (∀ e6 : E, ((0 ≤ e6.den ∧ e6.den < (esM X Y n)) → (((esA X Y n (e6.den)) = (esA X Y n ((e6.den)))) ∧ (((-9223372036854775808) ≤ (esA X Y n (e6.den)) ∧ (esA X Y n (e6.den)) ≤ 9223372036854775807) → (0 ≤ (esA X Y n ((e6.den))) ∧ (esA X Y n ((e6.den))) ≤ 1048576))))))) ∧ ((((eqB (esA X Y n) (esM X Y n) (esA X Y n) (esM X Y n)) = false) → (False)) ∧ (((eqB (esA X Y n) (esM X Y n) (esA X Y n) (esM X Y n)) = true) → (((n = n) ∧ ((n ≤ 9223372036854775807) → (n ≤ 1048576))) ∧ (((n ≤ n) ∧ (∀ e8 : E, ((0 ≤ e8.den ∧ e8.den < n) → ((((X (e8.den))) = ((X (e8.den)))) ∧ (((Y (e8.den))) = ((Y (e8.den)))))))) ∧ ((0 ≤ n ∧ n ≤ 1048576) → (((n = n) ∧ (n = n)) ∧ ((((n ≤ n) ∧ (∀ e10 : E, ((0 ≤ e10.den ∧ e10.den < n) → ((((X (e10.den))) = ((X (e10.den)))) ∧ (((Y (e10.den))) = ((Y (e10.den)))))))) ∧ ((n ≤ n) ∧ (∀ e9 : E, ((0 ≤ e9.den ∧ e9.den < n) → ((((X (e9.den))) = ((X (e9.den)))) ∧ (((Y (e9.den))) = ((Y (e9.den))))))))) ∧ ((((eqP X Y n X Y n) = false) → (False)) ∧ (((eqP X Y n X Y n) = true) → (((n = n) ∧ ((1 : Int) = 1)) ∧ (((n ≤ n) ∧ (∀ e11 : E, ((0 ≤ e11.den ∧ e11.den < n) → ((((X (e11.den))) = ((X (e11.den)))) ∧ (((Y (e11.den))) = ((Y (e11.den)))))))) ∧ ((0 ≤ (1 + 2 * n) ∧ (1 + 2 * n) ≤ 4194304) → ((((1 + 2 * n) < 0) → (False)) ∧ ((0 ≤ (1 + 2 * n)) → ((((esM X Y n) = (esM X Y n)) ∧ ((esM X Y n) = (esM X Y n))) ∧ (((((esM X Y n) ≤ (esM X Y n)) ∧ (∀ e13 : E, ((0 ≤ e13.den ∧ e13.den < (esM X Y n)) → ((esA X Y n ((e13.den))) = (((esA X Y n (((e13.den)))))))))) ∧ (((esM X Y n) ≤ (esM X Y n)) ∧ (∀ e12 : E, ((0 ≤ e12.den ∧ e12.den < (esM X Y n)) → ((esA X Y n ((e12.den))) = (((esA X Y n (((e12.den))))))))))) ∧ ((((eqB (esA X Y n) (esM X Y n) (esA X Y n) (esM X Y n)) = false) → (False)) ∧ (((eqB (esA X Y n) (esM X Y n) (esA X Y n) (esM X Y n)) = true) → ((((esM X Y n) = (esM X Y n)) ∧ ((1 : Int) = 1)) ∧ ((((esM X Y n) ≤ (esM X Y n)) ∧ (∀ e14 : E, ((0 ≤ e14.den ∧ e14.den < (esM X Y n)) → ((((esA X Y n (((e14.den)))))) = ((((esA X Y n ((((e14.den)))))))))))) ∧ ((0 ≤ (1 + (esM X Y n)) ∧ (1 + (esM X Y n)) ≤ 4194304) → ((((esM X Y n) = (esM X Y n)) ∧ ((1 : Int) = 1)) ∧ ((((esM X Y n) ≤ (esM X Y n)) ∧ (∀ e15 : E, ((0 ≤ e15.den ∧ e15.den < (esM X Y n)) → ((1 + (e15.den)) = (1 + ((e15.den))))))) ∧ (((-1) ≤ (if heldB (fun ι => 1 + (ι)) (esM X Y n) 1 = true then 1 + (esM X Y n) else -1) ∧ (if heldB (fun ι => 1 + (ι)) (esM X Y n) 1 = true then 1 + (esM X Y n) else -1) ≤ 4194304) → ((((if heldB (fun ι => 1 + (ι)) (esM X Y n) 1 = true then 1 + (esM X Y n) else -1) < 0) → (False)) ∧ ((0 ≤ (if heldB (fun ι => 1 + (ι)) (esM X Y n) 1 = true then 1 + (esM X Y n) else -1)) → ((((if heldB (fun ι => 1 + (ι)) (esM X Y n) 1 = true then 1 + (esM X Y n) else -1) ≠ (1 + (esM X Y n))) → (False)) ∧ (((if heldB (fun ι => 1 + (ι)) (esM X Y n) 1 = true then 1 + (esM X Y n) else -1) = (1 + (esM X Y n))) → (((n = n) ∧ ((n ≤ 9223372036854775807) → (n ≤ 1048576))) ∧ (((n ≤ n) ∧ (∀ e16 : E, ((0 ≤ e16.den ∧ e16.den < n) → ((((X (e16.den))) = ((X (e16.den)))) ∧ (((Y (e16.den))) = ((Y (e16.den)))))))) ∧ ((0 ≤ n ∧ n ≤ 1048576) → ((n = n) ∧ (((n ≤ n) ∧ (∀ e17 : E, ((0 ≤ e17.den ∧ e17.den < n) → ((((X (e17.den))) = ((X (e17.den)))) ∧ (((Y (e17.den))) = ((Y (e17.den)))))))) ∧ ((0 ≤ (esM X Y n) ∧ (esM X Y n) ≤ 3) → ((((esM X Y n) = (esM X Y n)) ∧ ((esM X Y n) = (esM X Y n))) ∧ (((((esM X Y n) ≤ (esM X Y n)) ∧ (∀ e19 : E, ((0 ≤ e19.den ∧ e19.den < (esM X Y n)) → (((esA X Y n (e19.den)) = (esA X Y n ((e19.den)))) ∧ (((-9223372036854775808) ≤ (esA X Y n (e19.den)) ∧ (esA X Y n (e19.den)) ≤ 9223372036854775807) → (0 ≤ (esA X Y n ((e19.den))) ∧ (esA X Y n ((e19.den))) ≤ 1048576)))))) ∧ (((esM X Y n) ≤ (esM X Y n)) ∧ (∀ e18 : E, ((0 ≤ e18.den ∧ e18.den < (esM X Y n)) → ((((esA X Y n (((e18.den)))))) = ((((esA X Y n ((((e18.den))))))))))))) ∧ ((((eqB (esA X Y n) (esM X Y n) (esA X Y n) (esM X Y n)) = false) → (False)) ∧ (((eqB (esA X Y n) (esM X Y n) (esA X Y n) (esM X Y n)) = true) → ((((esM X Y n) = (esM X Y n)) ∧ ((1 : Int) = 1)) ∧ ((((esM X Y n) ≤ (esM X Y n)) ∧ (∀ e20 : E, ((0 ≤ e20.den ∧ e20.den < (esM X Y n)) → ((1 + ((e20.den))) = (((1 + (((e20.den)))))))))) ∧ (((-1) ≤ (if heldB ((fun ι => (1 + ((ι))))) (esM X Y n) 1 = true then 1 + (esM X Y n) else -1) ∧ (if heldB ((fun ι => (1 + ((ι))))) (esM X Y n) 1 = true then 1 + (esM X Y n) else -1) ≤ 4194304) → ((((if heldB ((fun ι => (1 + ((ι))))) (esM X Y n) 1 = true then 1 + (esM X Y n) else -1) < 0) → (False)) ∧ ((0 ≤ (if heldB ((fun ι => (1 + ((ι))))) (esM X Y n) 1 = true then 1 + (esM X Y n) else -1)) → (((if heldB ((fun ι => (1 + ((ι))))) (esM X Y n) 1 = true then 1 + (esM X Y n) else -1) ≠ (1 + (esM X Y n))) → (False)))))))))))))))))))))))))))))))))))))))))))))))))))))))))))))))) (by kernel_rfl) ?_
  intro h1 h2
  refine ⟨⟨rfl, rfl⟩, ⟨Int.le_refl _, fun _ => fun _ => ⟨rfl, rfl⟩⟩, ?_⟩
  intro c22
  intro c23
  refine ⟨?_, ⟨Int.le_refl _, fun _ => fun _ => ⟨rfl, rfl⟩⟩, ?_⟩
  · refine ⟨rfl, ?_⟩
    intro c24
    -- 1: n ≤ 1048576
    first | rfl | omega | exact eqB_refl _ _ | exact es_bd (by omega) (by omega) (by omega) | exact eqP_refl _ _ _ | (simp_all [eqB_refl, eqP_refl, heldB_mark, heldP_mark]; done) | (simp_all [eqB_refl, eqP_refl, heldB_mark, heldP_mark]; omega) | fail
  · intro c25
    refine ⟨rfl, ⟨Int.le_refl _, fun _ => fun _ => ⟨rfl, rfl⟩⟩, ?_⟩
    intro c26
    refine ⟨?_, ⟨Int.le_refl _, fun _ => fun _ => ⟨rfl, rfl⟩⟩, ?_⟩
    · refine ⟨rfl, ?_⟩
      intro c27
      -- 2: n ≤ 1048576
      first | rfl | omega | exact eqB_refl _ _ | exact es_bd (by omega) (by omega) (by omega) | exact eqP_refl _ _ _ | (simp_all [eqB_refl, eqP_refl, heldB_mark, heldP_mark]; done) | (simp_all [eqB_refl, eqP_refl, heldB_mark, heldP_mark]; omega) | fail
    · intro c28
      refine ⟨rfl, ⟨Int.le_refl _, fun _ => fun _ => ⟨rfl, rfl⟩⟩, ?_⟩
      intro c29
      refine ⟨⟨rfl, rfl⟩, ?_, ?_, ?_⟩
      · refine ⟨?_, Int.le_refl _, ?_⟩
        · refine ⟨Int.le_refl _, ?_⟩
          intro e7
          intro c30
          refine ⟨rfl, ?_⟩
          intro c31
          -- 3: 0 ≤ (esA X Y n ((e7.den))) ∧ (esA X Y n ((e7.den))) ≤ 1048576
          first | rfl | omega | exact eqB_refl _ _ | exact es_bd (by omega) (by omega) (by omega) | exact eqP_refl _ _ _ | (simp_all [eqB_refl, eqP_refl, heldB_mark, heldP_mark]; done) | (simp_all [eqB_refl, eqP_refl, heldB_mark, heldP_mark]; omega) | fail
        · intro e6
          intro c32
          refine ⟨rfl, ?_⟩
          intro c33
          -- 4: 0 ≤ (esA X Y n ((e6.den))) ∧ (esA X Y n ((e6.den))) ≤ 1048576
          first | rfl | omega | exact eqB_refl _ _ | exact es_bd (by omega) (by omega) (by omega) | exact eqP_refl _ _ _ | (simp_all [eqB_refl, eqP_refl, heldB_mark, heldP_mark]; done) | (simp_all [eqB_refl, eqP_refl, heldB_mark, heldP_mark]; omega) | fail
      · intro c34
        -- 5: False
        first | rfl | omega | exact eqB_refl _ _ | exact es_bd (by omega) (by omega) (by omega) | exact eqP_refl _ _ _ | (simp_all [eqB_refl, eqP_refl, heldB_mark, heldP_mark]; done) | (simp_all [eqB_refl, eqP_refl, heldB_mark, heldP_mark]; omega) | fail
      · intro c35
        refine ⟨?_, ⟨Int.le_refl _, fun _ => fun _ => ⟨rfl, rfl⟩⟩, ?_⟩
        · refine ⟨rfl, ?_⟩
          intro c36
          -- 6: n ≤ 1048576
          first | rfl | omega | exact eqB_refl _ _ | exact es_bd (by omega) (by omega) (by omega) | exact eqP_refl _ _ _ | (simp_all [eqB_refl, eqP_refl, heldB_mark, heldP_mark]; done) | (simp_all [eqB_refl, eqP_refl, heldB_mark, heldP_mark]; omega) | fail
        · intro c37
          refine ⟨⟨rfl, rfl⟩, ⟨⟨Int.le_refl _, fun _ => fun _ => ⟨rfl, rfl⟩⟩, ⟨Int.le_refl _, fun _ => fun _ => ⟨rfl, rfl⟩⟩⟩, ?_, ?_⟩
          · intro c38
            -- 7: False
            first | rfl | omega | exact eqB_refl _ _ | exact es_bd (by omega) (by omega) (by omega) | exact eqP_refl _ _ _ | (simp_all [eqB_refl, eqP_refl, heldB_mark, heldP_mark]; done) | (simp_all [eqB_refl, eqP_refl, heldB_mark, heldP_mark]; omega) | fail
          · intro c39
            refine ⟨⟨rfl, rfl⟩, ⟨Int.le_refl _, fun _ => fun _ => ⟨rfl, rfl⟩⟩, ?_⟩
            intro c40
            refine ⟨?_, ?_⟩
            · intro c41
              -- 8: False
              first | rfl | omega | exact eqB_refl _ _ | exact es_bd (by omega) (by omega) (by omega) | exact eqP_refl _ _ _ | (simp_all [eqB_refl, eqP_refl, heldB_mark, heldP_mark]; done) | (simp_all [eqB_refl, eqP_refl, heldB_mark, heldP_mark]; omega) | fail
            · intro c42
              refine ⟨⟨rfl, rfl⟩, ⟨⟨Int.le_refl _, fun _ => fun _ => rfl⟩, ⟨Int.le_refl _, fun _ => fun _ => rfl⟩⟩, ?_, ?_⟩
              · intro c43
                -- 9: False
                first | rfl | omega | exact eqB_refl _ _ | exact es_bd (by omega) (by omega) (by omega) | exact eqP_refl _ _ _ | (simp_all [eqB_refl, eqP_refl, heldB_mark, heldP_mark]; done) | (simp_all [eqB_refl, eqP_refl, heldB_mark, heldP_mark]; omega) | fail
              · intro c44
                refine ⟨⟨rfl, rfl⟩, ⟨Int.le_refl _, fun _ => fun _ => rfl⟩, ?_⟩
                intro c45
                refine ⟨⟨rfl, rfl⟩, ⟨Int.le_refl _, fun _ => fun _ => rfl⟩, ?_⟩
                intro c46
                refine ⟨?_, ?_⟩
                · intro c47
                  -- 10: False
                  first | rfl | omega | exact eqB_refl _ _ | exact es_bd (by omega) (by omega) (by omega) | exact eqP_refl _ _ _ | (simp_all [eqB_refl, eqP_refl, heldB_mark, heldP_mark]; done) | (simp_all [eqB_refl, eqP_refl, heldB_mark, heldP_mark]; omega) | fail
                · intro c48
                  refine ⟨?_, ?_⟩
                  · intro c49
                    -- 11: False
                    first | rfl | omega | exact eqB_refl _ _ | exact es_bd (by omega) (by omega) (by omega) | exact eqP_refl _ _ _ | (simp_all [eqB_refl, eqP_refl, heldB_mark, heldP_mark]; done) | (simp_all [eqB_refl, eqP_refl, heldB_mark, heldP_mark]; omega) | fail
                  · intro c50
                    refine ⟨?_, ⟨Int.le_refl _, fun _ => fun _ => ⟨rfl, rfl⟩⟩, ?_⟩
                    · refine ⟨rfl, ?_⟩
                      intro c51
                      -- 12: n ≤ 1048576
                      first | rfl | omega | exact eqB_refl _ _ | exact es_bd (by omega) (by omega) (by omega) | exact eqP_refl _ _ _ | (simp_all [eqB_refl, eqP_refl, heldB_mark, heldP_mark]; done) | (simp_all [eqB_refl, eqP_refl, heldB_mark, heldP_mark]; omega) | fail
                    · intro c52
                      refine ⟨rfl, ⟨Int.le_refl _, fun _ => fun _ => ⟨rfl, rfl⟩⟩, ?_⟩
                      intro c53
                      refine ⟨⟨rfl, rfl⟩, ?_, ?_, ?_⟩
                      · refine ⟨?_, Int.le_refl _, fun _ => fun _ => rfl⟩
                        refine ⟨Int.le_refl _, ?_⟩
                        intro e19
                        intro c54
                        refine ⟨rfl, ?_⟩
                        intro c55
                        -- 13: 0 ≤ (esA X Y n ((e19.den))) ∧ (esA X Y n ((e19.den))) ≤ 1048576
                        first | rfl | omega | exact eqB_refl _ _ | exact es_bd (by omega) (by omega) (by omega) | exact eqP_refl _ _ _ | (simp_all [eqB_refl, eqP_refl, heldB_mark, heldP_mark]; done) | (simp_all [eqB_refl, eqP_refl, heldB_mark, heldP_mark]; omega) | fail
                      · intro c56
                        -- 14: False
                        first | rfl | omega | exact eqB_refl _ _ | exact es_bd (by omega) (by omega) (by omega) | exact eqP_refl _ _ _ | (simp_all [eqB_refl, eqP_refl, heldB_mark, heldP_mark]; done) | (simp_all [eqB_refl, eqP_refl, heldB_mark, heldP_mark]; omega) | fail
                      · intro c57
                        refine ⟨⟨rfl, rfl⟩, ⟨Int.le_refl _, fun _ => fun _ => rfl⟩, ?_⟩
                        intro c58
                        refine ⟨?_, ?_⟩
                        · intro c59
                          -- 15: False
                          first | rfl | omega | exact eqB_refl _ _ | exact es_bd (by omega) (by omega) (by omega) | exact eqP_refl _ _ _ | (simp_all [eqB_refl, eqP_refl, heldB_mark, heldP_mark]; done) | (simp_all [eqB_refl, eqP_refl, heldB_mark, heldP_mark]; omega) | fail
                        · intro c60
                          intro c61
                          -- 16: False
                          first | rfl | omega | exact eqB_refl _ _ | exact es_bd (by omega) (by omega) (by omega) | exact eqP_refl _ _ _ | (simp_all [eqB_refl, eqP_refl, heldB_mark, heldP_mark]; done) | (simp_all [eqB_refl, eqP_refl, heldB_mark, heldP_mark]; omega) | fail
def c_l_FnExactEnclosingSupport (X : Int → Int) (Y : Int → Int) (n : Int) : Cn Try.prog := ⟨_, _, _, _, _, l_FnExactEnclosingSupport X Y n⟩
end Go.Proofs.Ytcfkpdjbjfnnmaa
