/- FnRectCorners: the walk. -/
import Derived.Test.YtheehhfmdmflmaaK7
import Derived.Test.YtheehhfmdmflmaaR6
set_option linter.unusedSimpArgs false
set_option linter.unusedVariables false
set_option maxRecDepth 100000
namespace Go.Proofs.Ytheehhfmdmflmaa
open Go.Sym
theorem vrs1 {a b d f : Int} (h : vrs (selL [a]) (selL [b]) (selL [d]) (selL [f]) 1 = true) : rcB a b d f = true := by
  simp only [vrs, Bool.and_eq_true] at h
  exact allB_iff.1 h.2 0 (by decide) (by decide)
theorem corners {lX lY hX hY : Int} (h : rcB lX lY hX hY = true) : pir (selL [lX, hX]) (selL [lY, hY]) 2 lX lY hX hY = [0, 1] := by
  have hh := h
  simp only [rcB, Bool.and_eq_true, decide_eq_true_eq] at hh
  have hl : listB (selL [lX, hX]) (selL [lY, hY]) 2 = true := by
    simp only [listB, Bool.and_eq_true, decide_eq_true_eq]
    refine ⟨by decide, allB_iff.2 fun i h0 h1 => ?_⟩
    have : i = 0 ∨ i = 1 := by omega
    rcases this with rfl | rfl
    · exact hh.1.1.1
    · exact hh.1.1.2
  unfold pir
  rw [hl, h]
  simp only [Bool.and_self, if_true]
  have e : ∀ q : Int → Bool, q 0 = true → q 1 = true → fl q 2 = [0, 1] := by
    intro q h0 h1
    rw [show (2 : Int) = 1 + 1 by decide, fl_yes (by decide) h1, show (1 : Int) = 0 + 1 by decide, fl_yes (by decide) h0, fl_zero]; rfl
  refine e _ ?_ ?_
  · show inR lX lY lX lY hX hY = true
    simp [inR]; omega
  · show inR hX hY lX lY hX hY = true
    simp [inR]; omega
theorem l_FnRectCorners (C : Int → Int) (n : Int) : RunsTo Try.prog 7 [(.sl 0 1 (.lit 0) (.v fun _ => n) 9223372036854775807)] [some ⟨5, 1, false, (.sym (.v fun _ => n) fun e => [(.int .u8 (.v fun _ => (C (e.den))) 0 255)])⟩] (.bool (.lit true)) [none] := by
  refine RunsTo.go env Try.func7 rfl Try.call7 rfl rfl (fun _ _ => (.ite .ret (.callF (c_s_DrawPointsInRect C n) (.callF (c_i_PointsInRect (lsX C n) (lsY C n) (lsN C n) (rq1 C n) (rq2 C n) (rq3 C n) (rq4 C n)) (.callF (c_s_PointsInRect (lsX C n) (lsY C n) (lsN C n) (rq1 C n) (rq2 C n) (rq3 C n) (rq4 C n)) (.call (c_l_equalInts (selL (pir (lsX C n) (lsY C n) (lsN C n) (rq1 C n) (rq2 C n) (rq3 C n) (rq4 C n))) (len' (pir (lsX C n) (lsY C n) (lsN C n) (rq1 C n) (rq2 C n) (rq3 C n) (rq4 C n))) (selL (pir (lsX C n) (lsY C n) (lsN C n) (rq1 C n) (rq2 C n) (rq3 C n) (rq4 C n))) (len' (pir (lsX C n) (lsY C n) (lsN C n) (rq1 C n) (rq2 C n) (rq3 C n) (rq4 C n)))) (.ite (.callF (c_s_PointsInRect (lsX C n) (lsY C n) (lsN C n) (rq1 C n) (rq2 C n) (rq3 C n) (rq4 C n)) (.call (c_l_equalInts (selL (pir (lsX C n) (lsY C n) (lsN C n) (rq1 C n) (rq2 C n) (rq3 C n) (rq4 C n))) (len' (pir (lsX C n) (lsY C n) (lsN C n) (rq1 C n) (rq2 C n) (rq3 C n) (rq4 C n))) (selL (pir (lsX C n) (lsY C n) (lsN C n) (rq1 C n) (rq2 C n) (rq3 C n) (rq4 C n))) (len' (pir (lsX C n) (lsY C n) (lsN C n) (rq1 C n) (rq2 C n) (rq3 C n) (rq4 C n)))) .ret)) (.call (c_i_ValidRects (selL [rq1 C n]) (selL [rq2 C n]) (selL [rq3 C n]) (selL [rq4 C n]) 1) (.ite (.callF (c_s_PointsInRect (lsX C n) (lsY C n) (lsN C n) (rq1 C n) (rq2 C n) (rq3 C n) (rq4 C n)) (.call (c_l_equalInts (selL (pir (lsX C n) (lsY C n) (lsN C n) (rq1 C n) (rq2 C n) (rq3 C n) (rq4 C n))) (len' (pir (lsX C n) (lsY C n) (lsN C n) (rq1 C n) (rq2 C n) (rq3 C n) (rq4 C n))) (selL (pir (lsX C n) (lsY C n) (lsN C n) (rq1 C n) (rq2 C n) (rq3 C n) (rq4 C n))) (len' (pir (lsX C n) (lsY C n) (lsN C n) (rq1 C n) (rq2 C n) (rq3 C n) (rq4 C n)))) .ret)) (.callF (c_i_PointsInRect (selL [rq1 C n, rq3 C n]) (selL [rq2 C n, rq4 C n]) 2 (rq1 C n) (rq2 C n) (rq3 C n) (rq4 C n)) (.call (c_l_equalInts (selL (pir (selL [rq1 C n, rq3 C n]) (selL [rq2 C n, rq4 C n]) 2 (rq1 C n) (rq2 C n) (rq3 C n) (rq4 C n))) (len' (pir (selL [rq1 C n, rq3 C n]) (selL [rq2 C n, rq4 C n]) 2 (rq1 C n) (rq2 C n) (rq3 C n) (rq4 C n))) (selL [0, 1]) 2) .ret))))))))))) (G := (0 ≤ n ∧ n ≤ 9223372036854775807) → (∀ e18 : E, ((0 ≤ e18.den ∧ e18.den < n) → (0 ≤ ((C (e18.den))) ∧ ((C (e18.den))) ≤ 255))) → ((n ≤ 1048576) → ((n = n) ∧ (((n ≤ n) ∧ (∀ e1 : E, ((0 ≤ e1.den ∧ e1.den < n) → (((C (e1.den))) = ((C (e1.den))))))) ∧ (((0 ≤ (lsN C n) ∧ (lsN C n) ≤ 64) ∧ (((-1001) ≤ (rq1 C n) ∧ (rq1 C n) ≤ 1001) ∧ (((-1001) ≤ (rq2 C n) ∧ (rq2 C n) ≤ 1001) ∧ (((-1001) ≤ (rq3 C n) ∧ (rq3 C n) ≤ 1001) ∧ ((-1001) ≤ (rq4 C n) ∧ (rq4 C n) ≤ 1001))))) → ((((lsN C n) = (lsN C n)) ∧ (((rq1 C n) = (rq1 C n)) ∧ (((rq2 C n) = (rq2 C n)) ∧ (((rq3 C n) = (rq3 C n)) ∧ ((rq4 C n) = (rq4 C n)))))) ∧ ((((lsN C n) ≤ (lsN C n)) ∧ (∀ e2 : E, ((0 ≤ e2.den ∧ e2.den < (lsN C n)) → (((lsX C n (e2.den)) = (lsX C n ((e2.den)))) ∧ ((lsY C n (e2.den)) = (lsY C n ((e2.den)))))))) ∧ ((0 ≤ (len' (pir (lsX C n) (lsY C n) (lsN C n) (rq1 C n) (rq2 C n) (rq3 C n) (rq4 C n))) ∧ (len' (pir (lsX C n) (lsY C n) (lsN C n) (rq1 C n) (rq2 C n) (rq3 C n) (rq4 C n))) ≤ 1048576) → ((((lsN C n) = (lsN C n)) ∧ (((rq1 C n) = (rq1 C n)) ∧ (((rq2 C n) = (rq2 C n)) ∧ (((rq3 C n) = (rq3 C n)) ∧ ((rq4 C n) = (rq4 C n)))))) ∧ ((((lsN C n) ≤ (lsN C n)) ∧ (∀ e3 : E, ((0 ≤ e3.den ∧ e3.den < (lsN C n)) → (((lsX C n ((e3.den))) = (((lsX C n (((e3.den))))))) ∧ ((lsY C n ((e3.den))) = (((lsY C n (((e3.den))))))))))) ∧ ((0 ≤ (len' (pir (lsX C n) (lsY C n) (lsN C n) (rq1 C n) (rq2 C n) (rq3 C n) (rq4 C n))) ∧ (len' (pir (lsX C n) (lsY C n) (lsN C n) (rq1 C n) (rq2 C n) (rq3 C n) (rq4 C n))) ≤ 1048576) → ((((len' (pir (lsX C n) (lsY C n) (lsN C n) (rq1 C n) (rq2 C n) (rq3 C n) (rq4 C n))) = (len' (pir (lsX C n) (lsY C n) (lsN C n) (rq1 C n) (rq2 C n) (rq3 C n) (rq4 C n)))) ∧ ((len' (pir (lsX C n) (lsY C n) (lsN C n) (rq1 C n) (rq2 C n) (rq3 C n) (rq4 C n))) = (len' (pir (lsX C n) (lsY C n) (lsN C n) (rq1 C n) (rq2 C n) (rq3 C n) (rq4 C n))))) ∧ (((((len' (pir (lsX C n) (lsY C n) (lsN C n) (rq1 C n) (rq2 C n) (rq3 C n) (rq4 C n))) ≤ (len' (pir (lsX C n) (lsY C n) (lsN C n) (rq1 C n) (rq2 C n) (rq3 C n) (rq4 C n)))) ∧ (∀ e5 : E, ((0 ≤ e5.den ∧ e5.den < (len' (pir (lsX C n) (lsY C n) (lsN C n) (rq1 C n) (rq2 C n) (rq3 C n) (rq4 C n)))) → ((selL (pir (lsX C n) (lsY C n) (lsN C n) (rq1 C n) (rq2 C n) (rq3 C n) (rq4 C n)) (e5.den)) = (selL (pir (lsX C n) (lsY C n) (lsN C n) (rq1 C n) (rq2 C n) (rq3 C n) (rq4 C n)) ((e5.den))))))) ∧ (((len' (pir (lsX C n) (lsY C n) (lsN C n) (rq1 C n) (rq2 C n) (rq3 C n) (rq4 C n))) ≤ (len' (pir (lsX C n) (lsY C n) (lsN C n) (rq1 C n) (rq2 C n) (rq3 C n) (rq4 C n)))) ∧ (∀ e4 : E, ((0 ≤ e4.den ∧ e4.den < (len' (pir (lsX C n) (lsY C n) (lsN C n) (rq1 C n) (rq2 C n) (rq3 C n) (rq4 C n)))) → ((selL (pir (lsX C n) (lsY C n) (lsN C n) (rq1 C n) (rq2 C n) (rq3 C n) (rq4 C n)) (e4.den)) = (selL (pir (lsX C n) (lsY C n) (lsN C n) (rq1 C n) (rq2 C n) (rq3 C n) (rq4 C n)) ((e4.den)))))))) ∧ ((((eqB (selL (pir (lsX C n) (lsY C n) (lsN C n) (rq1 C n) (rq2 C n) (rq3 C n) (rq4 C n))) (len' (pir (lsX C n) (lsY C n) (lsN C n) (rq1 C n) (rq2 C n) (rq3 C n) (rq4 C n))) (selL (pir (lsX C n) (lsY C n) (lsN C n) (rq1 C n) (rq2 C n) (rq3 C n) (rq4 C n))) (len' (pir (lsX C n) (lsY C n) (lsN C n) (rq1 C n) (rq2 C n) (rq3 C n) (rq4 C n)))) = false) → ((((lsN C n) = (lsN C n)) ∧ (((rq1 C n) = (rq1 C n)) ∧ (((rq2 C n) = (rq2 C n)) ∧ (((rq3 C n) = (rq3 C n)) ∧ ((rq4 C n) = (rq4 C n)))))) ∧ ((((lsN C n) ≤ (lsN C n)) ∧ (∀ e6 : E, ((0 ≤ e6.den ∧ e6.den < (lsN C n)) → (((((lsX C n (((e6.den)))))) = ((((lsX C n ((((e6.den))))))))) ∧ ((((lsY C n (((e6.den)))))) = ((((lsY C n ((((e6.den))))))))))))) ∧ ((0 ≤ (len' (pir (lsX C n) (lsY C n) (lsN C n) (rq1 C n) (rq2 C n) (rq3 C n) (rq4 C n))) ∧ (len' (pir (lsX C n) (lsY C n) (lsN C n) (rq1 C n) (rq2 C n) (rq3 C n) (rq4 C n))) ≤ 1048576) → ((((len' (pir (lsX C n) (lsY C n) (lsN C n) (rq1 C n) (rq2 C n) (rq3 C n) (rq4 C n))) = (len' (pir (lsX C n) (lsY C n) (lsN C n) (rq1 C n) (rq2 C n) (rq3 C n) (rq4 C n)))) ∧ ((len' (pir (lsX C n) (lsY C n) (lsN C n) (rq1 C n) (rq2 C n) (rq3 C n) (rq4 C n))) = (len' (pir (lsX C n) (lsY C n) (lsN C n) (rq1 C n) (rq2 C n) (rq3 C n) (rq4 C n))))) ∧ (((((len' (pir (lsX C n) (lsY C n) (lsN C n) (rq1 C n) (rq2 C n) (rq3 C n) (rq4 C n))) ≤ (len' (pir (lsX C n) (lsY C n) (lsN C n) (rq1 C n) (rq2 C n) (rq3 C n) (rq4 C n)))) ∧ (∀ e8 : E, ((0 ≤ e8.den ∧ e8.den < (len' (pir (lsX C n) (lsY C n) (lsN C n) (rq1 C n) (rq2 C n) (rq3 C n) (rq4 C n)))) → ((selL (pir (lsX C n) (lsY C n) (lsN C n) (rq1 C n) (rq2 C n) (rq3 C n) (rq4 C n)) ((e8.den))) = (((selL (pir (lsX C n) (lsY C n) (lsN C n) (rq1 C n) (rq2 C n) (rq3 C n) (rq4 C n)) (((e8.den)))))))))) ∧ (((len' (pir (lsX C n) (lsY C n) (lsN C n) (rq1 C n) (rq2 C n) (rq3 C n) (rq4 C n))) ≤ (len' (pir (lsX C n) (lsY C n) (lsN C n) (rq1 C n) (rq2 C n) (rq3 C n) (rq4 C n)))) ∧ (∀ e7 : E, ((0 ≤ e7.den ∧ e7.den < (len' (pir (lsX C n) (lsY C n) (lsN C n) (rq1 C n) (rq2 C n) (rq3 C n) (rq4 C n)))) → ((selL (pir (lsX C n) (lsY C n) (lsN C n) (rq1 C n) (rq2 C n) (rq3 C n) (rq4 C n)) (e7.den)) = (selL (pir (lsX C n) (lsY C n) (lsN C n) (rq1 C n) (rq2 C n) (rq3 C n) (rq4 C n)) ((e7.den)))))))) ∧ ((eqB (selL (pir (lsX C n) (lsY C n) (lsN C n) (rq1 C n) (rq2 C n) (rq3 C n) (rq4 C n))) (len' (pir (lsX C n) (lsY C n) (lsN C n) (rq1 C n) (rq2 C n) (rq3 C n) (rq4 C n))) (selL (pir (lsX C n) (lsY C n) (lsN C n) (rq1 C n) (rq2 C n) (rq3 C n) (rq4 C n))) (len' (pir (lsX C n) (lsY C n) (lsN C n) (rq1 C n) (rq2 C n) (rq3 C n) (rq4 C n)))) = true))))))) ∧ (((eqB (selL (pir (lsX C n) (lsY C n) (lsN C n) (rq1 C n) (rq2 C n) (rq3 C n) (rq4 C n))) (len' (pir (lsX C n) (lsY C n) (lsN C n) (rq1 C n) (rq2 C n) (rq3 C n) (rq4 C n))) (selL (pir (lsX C n) (lsY C n) (lsN C n) (rq1 C n) (rq2 C n) (rq3 C n) (rq4 C n))) (len' (pir (lsX C n) (lsY C n) (lsN C n) (rq1 C n) (rq2 C n) (rq3 C n) (rq4 C n)))) = true) → (((1 : Int) = 1) ∧ ((((1 : Int) = 1) ∧ (∀ e9 : E, ((e9.den = 0) → (((rq1 C n) = (selL [rq1 C n] (e9.den))) ∧ (((rq2 C n) = (selL [rq2 C n] (e9.den))) ∧ (((rq3 C n) = (selL [rq3 C n] (e9.den))) ∧ ((rq4 C n) = (selL [rq4 C n] (e9.den))))))))) ∧ ((((vrs (selL [rq1 C n]) (selL [rq2 C n]) (selL [rq3 C n]) (selL [rq4 C n]) 1) = false) → ((((lsN C n) = (lsN C n)) ∧ (((rq1 C n) = (rq1 C n)) ∧ (((rq2 C n) = (rq2 C n)) ∧ (((rq3 C n) = (rq3 C n)) ∧ ((rq4 C n) = (rq4 C n)))))) ∧ ((((lsN C n) ≤ (lsN C n)) ∧ (∀ e10 : E, ((0 ≤ e10.den ∧ e10.den < (lsN C n)) → (((((lsX C n (((e10.den)))))) = ((((lsX C n ((((e10.den))))))))) ∧ ((((lsY C n (((e10.den)))))) = ((((lsY C n ((((e10.den))))))))))))) ∧ ((0 ≤ (len' (pir (lsX C n) (lsY C n) (lsN C n) (rq1 C n) (rq2 C n) (rq3 C n) (rq4 C n))) ∧ (len' (pir (lsX C n) (lsY C n) (lsN C n) (rq1 C n) (rq2 C n) (rq3 C n) (rq4 C n))) ≤ 1048576) → ((((len' (pir (lsX C n) (lsY C n) (lsN C n) (rq1 C n) (rq2 C n) (rq3 C n) (rq4 C n))) = (len' (pir (lsX C n) (lsY C n) (lsN C n) (rq1 C n) (rq2 C n) (rq3 C n) (rq4 C n)))) ∧ ((len' (pir (lsX C n) (lsY C n) (lsN C n) (rq1 C n) (rq2 C n) (rq3 C n) (rq4 C n))) = (len' (pir (lsX C n) (lsY C n) (lsN C n) (rq1 C n) (rq2 C n) (rq3 C n) (rq4 C n))))) ∧ (((((len' (pir (lsX C n) (lsY C n) (lsN C n) (rq1 C n) (rq2 C n) (rq3 C n) (rq4 C n))) ≤ (len' (pir (lsX C n) (lsY C n) (lsN C n) (rq1 C n) (rq2 C n) (rq3 C n) (rq4 C n)))) ∧ (∀ e12 : E, ((0 ≤ e12.den ∧ e12.den < (len' (pir (lsX C n) (lsY C n) (lsN C n) (rq1 C n) (rq2 C n) (rq3 C n) (rq4 C n)))) → ((selL (pir (lsX C n) (lsY C n) (lsN C n) (rq1 C n) (rq2 C n) (rq3 C n) (rq4 C n)) ((e12.den))) = (((selL (pir (lsX C n) (lsY C n) (lsN C n) (rq1 C n) (rq2 C n) (rq3 C n) (rq4 C n)) (((e12.den)))))))))) ∧ (((len' (pir (lsX C n) (lsY C n) (lsN C n) (rq1 C n) (rq2 C n) (rq3 C n) (rq4 C n))) ≤ (len' (pir (lsX C n) (lsY C n) (lsN C n) (rq1 C n) (rq2 C n) (rq3 C n) (rq4 C n)))) ∧ (∀ e11 : E, ((0 ≤ e11.den ∧ e11.den < (len' (pir (lsX C n) (lsY C n) (lsN C n) (rq1 C n) (rq2 C n) (rq3 C n) (rq4 C n)))) → ((selL (pir (lsX C n) (lsY C n) (lsN C n) (rq1 C n) (rq2 C n) (rq3 C n) (rq4 C n)) (e11.den)) = (selL (pir (lsX C n) (lsY C n) (lsN C n) (rq1 C n) (rq2 C n) (rq3 C n) (rq4 C n)) ((e11.den)))))))) ∧ ((eqB (selL (pir (lsX C n) (lsY C n) (lsN C n) (rq1 C n) (rq2 C n) (rq3 C n) (rq4 C n))) (len' (pir (lsX C n) (lsY C n) (lsN C n) (rq1 C n) (rq2 C n) (rq3 C n) (rq4 C n))) (selL (pir (lsX C n) (lsY C n) (lsN C n) (rq1 C n) (rq2 C n) (rq3 C n) (rq4 C n))) (len' (pir (lsX C n) (lsY C n) (lsN C n) (rq1 C n) (rq2 C n) (rq3 C n) (rq4 C n)))) = true))))))) ∧ (((vrs (selL [rq1 C n]) (selL [rq2 C n]) (selL [rq3 C n]) (selL [rq4 C n]) 1) = true) → ((((2 : Int) = 2) ∧ (((rq1 C n) = (rq1 C n)) ∧ (((rq2 C n) = (rq2 C n)) ∧ (((rq3 C n) = (rq3 C n)) ∧ ((rq4 C n) = (rq4 C n)))))) ∧ ((((2 : Int) = 2) ∧ ((∀ e14 : E, ((e14.den = 0) → (((rq1 C n) = (selL [rq1 C n, rq3 C n] (e14.den))) ∧ ((rq2 C n) = (selL [rq2 C n, rq4 C n] (e14.den)))))) ∧ (∀ e13 : E, ((e13.den = 1) → (((rq3 C n) = (selL [rq1 C n, rq3 C n] (e13.den))) ∧ ((rq4 C n) = (selL [rq2 C n, rq4 C n] (e13.den)))))))) ∧ ((0 ≤ (len' (pir (selL [rq1 C n, rq3 C n]) (selL [rq2 C n, rq4 C n]) 2 (rq1 C n) (rq2 C n) (rq3 C n) (rq4 C n))) ∧ (len' (pir (selL [rq1 C n, rq3 C n]) (selL [rq2 C n, rq4 C n]) 2 (rq1 C n) (rq2 C n) (rq3 C n) (rq4 C n))) ≤ 1048576) → ((((len' (pir (selL [rq1 C n, rq3 C n]) (selL [rq2 C n, rq4 C n]) 2 (rq1 C n) (rq2 C n) (rq3 C n) (rq4 C n))) = (len' (pir (selL [rq1 C n, rq3 C n]) (selL [rq2 C n, rq4 C n]) 2 (rq1 C n) (rq2 C n) (rq3 C n) (rq4 C n)))) ∧ ((2 : Int) = 2)) ∧ (((((len' (pir (selL [rq1 C n, rq3 C n]) (selL [rq2 C n, rq4 C n]) 2 (rq1 C n) (rq2 C n) (rq3 C n) (rq4 C n))) ≤ (len' (pir (selL [rq1 C n, rq3 C n]) (selL [rq2 C n, rq4 C n]) 2 (rq1 C n) (rq2 C n) (rq3 C n) (rq4 C n)))) ∧ (∀ e17 : E, ((0 ≤ e17.den ∧ e17.den < (len' (pir (selL [rq1 C n, rq3 C n]) (selL [rq2 C n, rq4 C n]) 2 (rq1 C n) (rq2 C n) (rq3 C n) (rq4 C n)))) → ((selL (pir (selL [rq1 C n, rq3 C n]) (selL [rq2 C n, rq4 C n]) 2 (rq1 C n) (rq2 C n) (rq3 C n) (rq4 C n)) (e17.den)) = (selL (pir (selL [rq1 C n, rq3 C n]) (selL [rq2 C n, rq4 C n]) 2 (rq1 C n) (rq2 C n) (rq3 C n) (rq4 C n)) ((e17.den))))))) ∧ (((2 : Int) = 2) ∧ ((∀ e16 : E, ((e16.den = 0) → ((0 : Int) = (selL [0, 1] (e16.den))))) ∧ (∀ e15 : E, ((e15.den = 1) → ((1 : Int) = (selL [0, 1] (e15.den)))))))) ∧ ((eqB (selL (pir (selL [rq1 C n, rq3 C n]) (selL [rq2 C n, rq4 C n]) 2 (rq1 C n) (rq2 C n) (rq3 C n) (rq4 C n))) (len' (pir (selL [rq1 C n, rq3 C n]) (selL [rq2 C n, rq4 C n]) 2 (rq1 C n) (rq2 C n) (rq3 C n) (rq4 C n))) (selL [0, 1]) 2) = true))))))))))))))))))))))))) (by kernel_rfl) ?_
  intro h1 h2
  intro c19
  refine ⟨rfl, ⟨Int.le_refl _, fun _ => fun _ => rfl⟩, ?_⟩
  intro c20
  refine ⟨⟨rfl, ⟨rfl, ⟨rfl, ⟨rfl, rfl⟩⟩⟩⟩, ⟨Int.le_refl _, fun _ => fun _ => ⟨rfl, rfl⟩⟩, ?_⟩
  intro c21
  refine ⟨⟨rfl, ⟨rfl, ⟨rfl, ⟨rfl, rfl⟩⟩⟩⟩, ⟨Int.le_refl _, fun _ => fun _ => ⟨rfl, rfl⟩⟩, ?_⟩
  intro c22
  refine ⟨⟨rfl, rfl⟩, ⟨⟨Int.le_refl _, fun _ => fun _ => rfl⟩, ⟨Int.le_refl _, fun _ => fun _ => rfl⟩⟩, ?_, ?_⟩
  · intro c23
    refine ⟨⟨rfl, ⟨rfl, ⟨rfl, ⟨rfl, rfl⟩⟩⟩⟩, ⟨Int.le_refl _, fun _ => fun _ => ⟨rfl, rfl⟩⟩, ?_⟩
    intro c24
    refine ⟨⟨rfl, rfl⟩, ⟨⟨Int.le_refl _, fun _ => fun _ => rfl⟩, ⟨Int.le_refl _, fun _ => fun _ => rfl⟩⟩, ?_⟩
    -- 1: (eqB (selL (pir (lsX C n) (lsY C n) (lsN C n) (rq1 C n) (rq2 C n) (rq3 C n) (rq4 C n))) (len' (pir (
    first | rfl | omega | exact eqB_refl _ _ | (simp_all [selL]; done) | (rw [corners (vrs1 (by assumption))]; exact eqB_refl _ _)
  · intro c25
    refine ⟨rfl, ?_, ?_, ?_⟩
    · refine ⟨rfl, ?_⟩
      intro e9
      intro c26
      refine ⟨?_, ?_, ?_, ?_⟩
        -- 2: (rq1 C n) = (selL [rq1 C n] (e9.den))
      · first | rfl | omega | exact eqB_refl _ _ | (simp_all [selL]; done) | (rw [corners (vrs1 (by assumption))]; exact eqB_refl _ _)
        -- 3: (rq2 C n) = (selL [rq2 C n] (e9.den))
      · first | rfl | omega | exact eqB_refl _ _ | (simp_all [selL]; done) | (rw [corners (vrs1 (by assumption))]; exact eqB_refl _ _)
        -- 4: (rq3 C n) = (selL [rq3 C n] (e9.den))
      · first | rfl | omega | exact eqB_refl _ _ | (simp_all [selL]; done) | (rw [corners (vrs1 (by assumption))]; exact eqB_refl _ _)
        -- 5: (rq4 C n) = (selL [rq4 C n] (e9.den))
      · first | rfl | omega | exact eqB_refl _ _ | (simp_all [selL]; done) | (rw [corners (vrs1 (by assumption))]; exact eqB_refl _ _)
    · intro c27
      refine ⟨⟨rfl, ⟨rfl, ⟨rfl, ⟨rfl, rfl⟩⟩⟩⟩, ⟨Int.le_refl _, fun _ => fun _ => ⟨rfl, rfl⟩⟩, ?_⟩
      intro c28
      refine ⟨⟨rfl, rfl⟩, ⟨⟨Int.le_refl _, fun _ => fun _ => rfl⟩, ⟨Int.le_refl _, fun _ => fun _ => rfl⟩⟩, ?_⟩
      -- 6: (eqB (selL (pir (lsX C n) (lsY C n) (lsN C n) (rq1 C n) (rq2 C n) (rq3 C n) (rq4 C n))) (len' (pir (
      first | rfl | omega | exact eqB_refl _ _ | (simp_all [selL]; done) | (rw [corners (vrs1 (by assumption))]; exact eqB_refl _ _)
    · intro c29
      refine ⟨⟨rfl, ⟨rfl, ⟨rfl, ⟨rfl, rfl⟩⟩⟩⟩, ?_, ?_⟩
      · refine ⟨rfl, ?_, ?_⟩
        · intro e14
          intro c30
          refine ⟨?_, ?_⟩
            -- 7: (rq1 C n) = (selL [rq1 C n, rq3 C n] (e14.den))
          · first | rfl | omega | exact eqB_refl _ _ | (simp_all [selL]; done) | (rw [corners (vrs1 (by assumption))]; exact eqB_refl _ _)
            -- 8: (rq2 C n) = (selL [rq2 C n, rq4 C n] (e14.den))
          · first | rfl | omega | exact eqB_refl _ _ | (simp_all [selL]; done) | (rw [corners (vrs1 (by assumption))]; exact eqB_refl _ _)
        · intro e13
          intro c31
          refine ⟨?_, ?_⟩
            -- 9: (rq3 C n) = (selL [rq1 C n, rq3 C n] (e13.den))
          · first | rfl | omega | exact eqB_refl _ _ | (simp_all [selL]; done) | (rw [corners (vrs1 (by assumption))]; exact eqB_refl _ _)
            -- 10: (rq4 C n) = (selL [rq2 C n, rq4 C n] (e13.den))
          · first | rfl | omega | exact eqB_refl _ _ | (simp_all [selL]; done) | (rw [corners (vrs1 (by assumption))]; exact eqB_refl _ _)
      · intro c32
        refine ⟨⟨rfl, rfl⟩, ?_, ?_⟩
        · refine ⟨⟨Int.le_refl _, fun _ => fun _ => rfl⟩, rfl, ?_, ?_⟩
          · intro e16
            intro c33
            -- 11: (0 : Int) = (selL [0, 1] (e16.den))
            first | rfl | omega | exact eqB_refl _ _ | (simp_all [selL]; done) | (rw [corners (vrs1 (by assumption))]; exact eqB_refl _ _)
          · intro e15
            intro c34
            -- 12: (1 : Int) = (selL [0, 1] (e15.den))
            first | rfl | omega | exact eqB_refl _ _ | (simp_all [selL]; done) | (rw [corners (vrs1 (by assumption))]; exact eqB_refl _ _)
          -- 13: (eqB (selL (pir (selL [rq1 C n, rq3 C n]) (selL [rq2 C n, rq4 C n]) 2 (rq1 C n) (rq2 C n) (rq3 C n) 
        · first | rfl | omega | exact eqB_refl _ _ | (simp_all [selL]; done) | (rw [corners (vrs1 (by assumption))]; exact eqB_refl _ _)
def c_l_FnRectCorners (C : Int → Int) (n : Int) : Cn Try.prog := ⟨_, _, _, _, _, l_FnRectCorners C n⟩
end Go.Proofs.Ytheehhfmdmflmaa
