/- FnExactMapPoints: the walk. -/
import Derived.Test.YtndkhbilefljnaaK9
import Derived.Test.YtndkhbilefljnaaK10
set_option linter.unusedSimpArgs false
set_option linter.unusedVariables false
set_option maxRecDepth 100000
namespace Go.Proofs.Ytndkhbilefljnaa
open Go.Sym
theorem l_FnExactMapPoints (mA : Int) (mB : Int) (mC : Int) (mD : Int) (X : Int → Int) (Y : Int → Int) (n : Int) : RunsTo Try.prog 4 [(.agg [(.int .i64 (.v fun _ => mA) (-9223372036854775808) 9223372036854775807), (.int .i64 (.v fun _ => mB) (-9223372036854775808) 9223372036854775807), (.int .i64 (.v fun _ => mC) (-9223372036854775808) 9223372036854775807), (.int .i64 (.v fun _ => mD) (-9223372036854775808) 9223372036854775807)]), (.sl 0 2 (.lit 0) (.v fun _ => n) 9223372036854775807)] [some ⟨90, 2, false, (.sym (.v fun _ => n) fun e => [(.int .i64 (.v fun _ => (X (e.den))) (-9223372036854775808) 9223372036854775807), (.int .i64 (.v fun _ => (Y (e.den))) (-9223372036854775808) 9223372036854775807)])⟩] (.bool (.lit true)) [none] := by
  refine RunsTo.go env Try.func4 rfl Try.call4 rfl rfl (fun _ _ => (.callF (c_l_szPointS X Y n 1048576) (.ite .ret (.callF (c_l_toMatrix mA mB mC mD) (.callF (c_l_toPointS X Y n) (.callF (c_s_MapPoints mA mB mC mD X Y n) (.callF (c_l_toPointS X Y n) (.callF (c_l_toMatrix mA mB mC mD) (.callF (c_i_MapPoints mA mB mC mD X Y n) (.call (c_l_eqPointS (mpf X Y mA mB) (mpf X Y mC mD) (mpN X Y n mA mB mC mD) (mpf X Y mA mB) (mpf X Y mC mD) (mpN X Y n mA mB mC mD)) (.ite .ret (.ite .ret (.callF (c_l_toPointS X Y n) (.call (c_l_eqPointS X Y n X Y n) (.ite .ret (.callF (c_l_markPointS X Y n 1) (.ite .ret (.call (c_l_eqPointS (mpf X Y mA mB) (mpf X Y mC mD) (mpN X Y n mA mB mC mD) (mpf X Y mA mB) (mpf X Y mC mD) (mpN X Y n mA mB mC mD)) (.ite .ret (.ite .ret (.callF (c_l_markPointS (mpf X Y mA mB) (mpf X Y mC mD) (mpN X Y n mA mB mC mD) 1) (.callF (c_l_heldPointS (fun ι => 1 + 2 * (ι)) (fun ι => 1 + 2 * (ι) + 1) (mpN X Y n mA mB mC mD) 1) (.ite .ret (.ite .ret (.callF (c_l_toMatrix mA mB mC mD) (.callF (c_l_toPointS X Y n) (.callF (c_i_MapPoints mA mB mC mD X Y n) (.call (c_l_eqPointS (mpf X Y mA mB) (mpf X Y mC mD) (mpN X Y n mA mB mC mD) (mpf X Y mA mB) (mpf X Y mC mD) (mpN X Y n mA mB mC mD)) (.ite .ret (.ite .ret (.callF (c_l_heldPointS ((fun ι => (1 + 2 * ((ι))))) ((fun ι => (1 + 2 * ((ι)) + 1))) (mpN X Y n mA mB mC mD) 1) (.ite .ret (.ite .ret .ret))))))))))))))))))))))))))))))))) (G := ((((-9223372036854775808) ≤ mA ∧ mA ≤ 9223372036854775807) ∧ (((-9223372036854775808) ≤ mB ∧ mB ≤ 9223372036854775807) ∧ (((-9223372036854775808) ≤ mC ∧ mC ≤ 9223372036854775807) ∧ ((-9223372036854775808) ≤ mD ∧ mD ≤ 9223372036854775807)))) ∧ (0 ≤ n ∧ n ≤ 9223372036854775807)) → (∀ e21 : E, ((0 ≤ e21.den ∧ e21.den < n) → (((-9223372036854775808) ≤ ((X (e21.den))) ∧ ((X (e21.den))) ≤ 9223372036854775807) ∧ ((-9223372036854775808) ≤ ((Y (e21.den))) ∧ ((Y (e21.den))) ≤ 9223372036854775807)))) → (((n = n) ∧ ((1048576 : Int) = 1048576)) ∧ (((n ≤ n) ∧ (∀ e1 : E, ((0 ≤ e1.den ∧ e1.den < n) → ((((X (e1.den))) = ((X (e1.den)))) ∧ (((Y (e1.den))) = ((Y (e1.den)))))))) ∧ (((-1) ≤ (if 1048576 - n < 0 then -1 else 1048576 - n) ∧ (if 1048576 - n < 0 then -1 else 1048576 - n) ≤ 1048576) → ((0 ≤ (if 1048576 - n < 0 then -1 else 1048576 - n)) → (((mA = mA) ∧ ((mB = mB) ∧ ((mC = mC) ∧ (mD = mD)))) ∧ ((((-9223372036854775808) ≤ mA ∧ mA ≤ 9223372036854775807) ∧ (((-9223372036854775808) ≤ mB ∧ mB ≤ 9223372036854775807) ∧ (((-9223372036854775808) ≤ mC ∧ mC ≤ 9223372036854775807) ∧ ((-9223372036854775808) ≤ mD ∧ mD ≤ 9223372036854775807)))) → (((n = n) ∧ ((n ≤ 9223372036854775807) → (n ≤ 1048576))) ∧ (((n ≤ n) ∧ (∀ e2 : E, ((0 ≤ e2.den ∧ e2.den < n) → ((((X (e2.den))) = ((X (e2.den)))) ∧ (((Y (e2.den))) = ((Y (e2.den)))))))) ∧ ((0 ≤ n ∧ n ≤ 1048576) → ((((mA = mA) ∧ ((mB = mB) ∧ ((mC = mC) ∧ (mD = mD)))) ∧ (n = n)) ∧ (((n ≤ n) ∧ (∀ e3 : E, ((0 ≤ e3.den ∧ e3.den < n) → ((((X (e3.den))) = ((X (e3.den)))) ∧ (((Y (e3.den))) = ((Y (e3.den)))))))) ∧ ((0 ≤ (mpN X Y n mA mB mC mD) ∧ (mpN X Y n mA mB mC mD) ≤ 1048576) → (((n = n) ∧ ((n ≤ 9223372036854775807) → (n ≤ 1048576))) ∧ (((n ≤ n) ∧ (∀ e4 : E, ((0 ≤ e4.den ∧ e4.den < n) → ((((X (e4.den))) = ((X (e4.den)))) ∧ (((Y (e4.den))) = ((Y (e4.den)))))))) ∧ ((0 ≤ n ∧ n ≤ 1048576) → (((mA = mA) ∧ ((mB = mB) ∧ ((mC = mC) ∧ (mD = mD)))) ∧ ((((-9223372036854775808) ≤ mA ∧ mA ≤ 9223372036854775807) ∧ (((-9223372036854775808) ≤ mB ∧ mB ≤ 9223372036854775807) ∧ (((-9223372036854775808) ≤ mC ∧ mC ≤ 9223372036854775807) ∧ ((-9223372036854775808) ≤ mD ∧ mD ≤ 9223372036854775807)))) → ((((mA = mA) ∧ ((mB = mB) ∧ ((mC = mC) ∧ (mD = mD)))) ∧ (n = n)) ∧ (((n ≤ n) ∧ (∀ e5 : E, ((0 ≤ e5.den ∧ e5.den < n) → ((((X (e5.den))) = ((X (e5.den)))) ∧ (((Y (e5.den))) = ((Y (e5.den)))))))) ∧ ((0 ≤ (mpN X Y n mA mB mC mD) ∧ (mpN X Y n mA mB mC mD) ≤ 1048576) → ((((mpN X Y n mA mB mC mD) = (mpN X Y n mA mB mC mD)) ∧ ((mpN X Y n mA mB mC mD) = (mpN X Y n mA mB mC mD))) ∧ (((((mpN X Y n mA mB mC mD) ≤ (mpN X Y n mA mB mC mD)) ∧ (∀ e7 : E, ((0 ≤ e7.den ∧ e7.den < (mpN X Y n mA mB mC mD)) → (((mpf X Y mA mB (e7.den)) = (mpf X Y mA mB ((e7.den)))) ∧ ((mpf X Y mC mD (e7.den)) = (mpf X Y mC mD ((e7.den)))))))) ∧ (((mpN X Y n mA mB mC mD) ≤ (mpN X Y n mA mB mC mD)) ∧ (∀ e6 : E, ((0 ≤ e6.den ∧ e6.den < (mpN X Y n mA mB mC mD)) → (((mpf X Y mA mB (e6.den)) = (mpf X Y mA mB ((e6.den)))) ∧ ((mpf X Y mC mD (e6.den)) = (mpf X Y mC mD ((e6.den))))))))) ∧ ((((eqP (mpf X Y mA mB) (mpf X Y mC mD) (mpN X Y n mA mB mC mD) (mpf X Y mA mB) (mpf X Y mC mD) (mpN X Y n mA mB mC mD)) = false) → (False)) ∧ (((eqP (mpf X Y mA mB) (mpf X Y mC mD) (mpN X Y n mA mB mC mD) (mpf X Y mA mB) (mpf X Y mC mD) (mpN X Y n mA mB mC mD)) = true) → ((((((mpB X Y n mA mB mC mD) = true) ↔ ((mpB X Y n mA mB mC mD) = false))) → (False)) ∧ (((((mpB X Y n mA mB mC mD) = true) ↔ ((mpB X Y n mA mB mC mD) = true))) → (((n = n) ∧ ((n ≤ 9223372036854775807) → (n ≤ 1048576))) ∧ (((n ≤ n) ∧ (∀ e8 : E, ((0 ≤ e8.den ∧ e8.den < n) → ((((X (e8.den))) = ((X (e8.den)))) ∧ (((Y (e8.den))) = ((Y (e8.den)))))))) ∧ ((0 ≤ n ∧ n ≤ 1048576) → (((n = n) ∧ (n = n)) ∧ ((((n ≤ n) ∧ (∀ e10 : E, ((0 ≤ e10.den ∧ e10.den < n) → ((((X (e10.den))) = ((X (e10.den)))) ∧ (((Y (e10.den))) = ((Y (e10.den)))))))) ∧ ((n ≤ n) ∧ (∀ e9 : E, ((0 ≤ e9.den ∧ e9.den < n) → ((((X (e9.den))) = ((X (e9.den)))) ∧ (((Y (e9.den))) = ((Y (e9.den))))))))) ∧ ((((eqP X Y n X Y n) = false) → (False)) ∧ (((eqP X Y n X Y n) = true) → (((n = n) ∧ ((1 : Int) = 1)) ∧ (((n ≤ n) ∧ (∀ e11 : E, ((0 ≤ e11.den ∧ e11.den < n) → ((((X (e11.den))) = ((X (e11.den)))) ∧ (((Y (e11.den))) = ((Y (e11.den)))))))) ∧ ((0 ≤ (1 + 2 * n) ∧ (1 + 2 * n) ≤ 4194304) → ((((1 + 2 * n) < 0) → (False)) ∧ ((0 ≤ (1 + 2 * n)) → ((((mpN X Y n mA mB mC mD) = (mpN X Y n mA mB mC mD)) ∧ ((mpN X Y n mA mB mC mD) = (mpN X Y n mA mB mC mD))) ∧ (((((mpN X Y n mA mB mC mD) ≤ (mpN X Y n mA mB mC mD)) ∧ (∀ e13 : E, ((0 ≤ e13.den ∧ e13.den < (mpN X Y n mA mB mC mD)) → (((mpf X Y mA mB ((e13.den))) = (((mpf X Y mA mB (((e13.den))))))) ∧ ((mpf X Y mC mD ((e13.den))) = (((mpf X Y mC mD (((e13.den))))))))))) ∧ (((mpN X Y n mA mB mC mD) ≤ (mpN X Y n mA mB mC mD)) ∧ (∀ e12 : E, ((0 ≤ e12.den ∧ e12.den < (mpN X Y n mA mB mC mD)) → (((mpf X Y mA mB ((e12.den))) = (((mpf X Y mA mB (((e12.den))))))) ∧ ((mpf X Y mC mD ((e12.den))) = (((mpf X Y mC mD (((e12.den)))))))))))) ∧ ((((eqP (mpf X Y mA mB) (mpf X Y mC mD) (mpN X Y n mA mB mC mD) (mpf X Y mA mB) (mpf X Y mC mD) (mpN X Y n mA mB mC mD)) = false) → (False)) ∧ (((eqP (mpf X Y mA mB) (mpf X Y mC mD) (mpN X Y n mA mB mC mD) (mpf X Y mA mB) (mpf X Y mC mD) (mpN X Y n mA mB mC mD)) = true) → ((((((mpB X Y n mA mB mC mD) = true) ↔ ((mpB X Y n mA mB mC mD) = false))) → (False)) ∧ (((((mpB X Y n mA mB mC mD) = true) ↔ ((mpB X Y n mA mB mC mD) = true))) → ((((mpN X Y n mA mB mC mD) = (mpN X Y n mA mB mC mD)) ∧ ((1 : Int) = 1)) ∧ ((((mpN X Y n mA mB mC mD) ≤ (mpN X Y n mA mB mC mD)) ∧ (∀ e14 : E, ((0 ≤ e14.den ∧ e14.den < (mpN X Y n mA mB mC mD)) → (((((mpf X Y mA mB (((e14.den)))))) = ((((mpf X Y mA mB ((((e14.den))))))))) ∧ ((((mpf X Y mC mD (((e14.den)))))) = ((((mpf X Y mC mD ((((e14.den))))))))))))) ∧ ((0 ≤ (1 + 2 * (mpN X Y n mA mB mC mD)) ∧ (1 + 2 * (mpN X Y n mA mB mC mD)) ≤ 4194304) → ((((mpN X Y n mA mB mC mD) = (mpN X Y n mA mB mC mD)) ∧ ((1 : Int) = 1)) ∧ ((((mpN X Y n mA mB mC mD) ≤ (mpN X Y n mA mB mC mD)) ∧ (∀ e15 : E, ((0 ≤ e15.den ∧ e15.den < (mpN X Y n mA mB mC mD)) → (((1 + 2 * (e15.den)) = (1 + 2 * ((e15.den)))) ∧ ((1 + 2 * (e15.den) + 1) = (1 + 2 * ((e15.den)) + 1)))))) ∧ (((-1) ≤ (if heldP (fun ι => 1 + 2 * (ι)) (fun ι => 1 + 2 * (ι) + 1) (mpN X Y n mA mB mC mD) 1 = true then 1 + 2 * (mpN X Y n mA mB mC mD) else -1) ∧ (if heldP (fun ι => 1 + 2 * (ι)) (fun ι => 1 + 2 * (ι) + 1) (mpN X Y n mA mB mC mD) 1 = true then 1 + 2 * (mpN X Y n mA mB mC mD) else -1) ≤ 4194304) → ((((if heldP (fun ι => 1 + 2 * (ι)) (fun ι => 1 + 2 * (ι) + 1) (mpN X Y n mA mB mC mD) 1 = true then 1 + 2 * (mpN X Y n mA mB mC mD) else -1) < 0) → (False)) ∧ ((0 ≤ (if heldP (fun ι => 1 + 2 * (ι)) (fun ι => 1 + 2 * (ι) + 1) (mpN X Y n mA mB mC mD) 1 = true then 1 + 2 * (mpN X Y n mA mB mC mD) else -1)) → ((((if heldP (fun ι => 1 + 2 * (ι)) (fun ι => 1 + 2 * (ι) + 1) (mpN X Y n mA mB mC mD) 1 = true then 1 + 2 * (mpN X Y n mA mB mC mD) else -1) ≠ (1 + 2 * (mpN X Y n mA mB mC mD))) → (False)) ∧ (((if heldP (fun ι => 1 + 2 * (ι)) (fun ι => 1 + 2 * (ι) + 1) (mpN X Y n mA mB mC mD) 1 = true then 1 + 2 * (mpN X Y n mA mB mC mD) else -1) = (1 + 2 * (mpN X Y n mA mB mC mD))) → (((mA = mA) ∧ ((mB = mB) ∧ ((mC = mC) ∧ (mD = mD)))) ∧ ((((-9223372036854775808) ≤ mA ∧ mA ≤ 9223372036854775807) ∧ (((-9223372036854775808) ≤ mB ∧ mB ≤ 9223372036854775807) ∧ (((-9223372036854775808) ≤ mC ∧ mC ≤ 9223372036854775807) ∧ ((-9223372036854775808) ≤ mD ∧ mD ≤ 9223372036854775807)))) → (((n = n) ∧ ((n ≤ 9223372036854775807) → (n ≤ 1048576))) ∧ (((n ≤ n) ∧ (∀ e16 : E, ((0 ≤ e16.den ∧ e16.den < n) → ((((X (e16.den))) = ((X (e16.den)))) ∧ (((Y (e16.den))) = ((Y (e16.den)))))))) ∧ ((0 ≤ n ∧ n ≤ 1048576) → ((((mA = mA) ∧ ((mB = mB) ∧ ((mC = mC) ∧ (mD = mD)))) ∧ (n = n)) ∧ (((n ≤ n) ∧ (∀ e17 : E, ((0 ≤ e17.den ∧ e17.den < n) → ((((X (e17.den))) = ((X (e17.den)))) ∧ (((Y (e17.den))) = ((Y (e17.den)))))))) ∧ ((0 ≤ (mpN X Y n mA mB mC mD) ∧ (mpN X Y n mA mB mC mD) ≤ 1048576) → ((((mpN X Y n mA mB mC mD) = (mpN X Y n mA mB mC mD)) ∧ ((mpN X Y n mA mB mC mD) = (mpN X Y n mA mB mC mD))) ∧ (((((mpN X Y n mA mB mC mD) ≤ (mpN X Y n mA mB mC mD)) ∧ (∀ e19 : E, ((0 ≤ e19.den ∧ e19.den < (mpN X Y n mA mB mC mD)) → (((mpf X Y mA mB (e19.den)) = (mpf X Y mA mB ((e19.den)))) ∧ ((mpf X Y mC mD (e19.den)) = (mpf X Y mC mD ((e19.den)))))))) ∧ (((mpN X Y n mA mB mC mD) ≤ (mpN X Y n mA mB mC mD)) ∧ (∀ e18 : E, ((0 ≤ e18.den ∧ e18.den < (mpN X Y n mA mB mC mD)) → (((((mpf X Y mA mB (((e18.den)))))) = ((((mpf X Y mA mB ((((e18.den))))))))) ∧ ((((mpf X Y mC mD (((e18.den)))))) = ((((mpf X Y mC mD ((((e18.den)))))))))))))) ∧ ((((eqP (mpf X Y mA mB) (mpf X Y mC mD) (mpN X Y n mA mB mC mD) (mpf X Y mA mB) (mpf X Y mC mD) (mpN X Y n mA mB mC mD)) = false) → (False)) ∧ (((eqP (mpf X Y mA mB) (mpf X Y mC mD) (mpN X Y n mA mB mC mD) (mpf X Y mA mB) (mpf X Y mC mD) (mpN X Y n mA mB mC mD)) = true) → ((((((mpB X Y n mA mB mC mD) = true) ↔ ((mpB X Y n mA mB mC mD) = false))) → (False)) ∧ (((((mpB X Y n mA mB mC mD) = true) ↔ ((mpB X Y n mA mB mC mD) = true))) → ((((mpN X Y n mA mB mC mD) = (mpN X Y n mA mB mC mD)) ∧ ((1 : Int) = 1)) ∧ ((((mpN X Y n mA mB mC mD) ≤ (mpN X Y n mA mB mC mD)) ∧ (∀ e20 : E, ((0 ≤ e20.den ∧ e20.den < (mpN X Y n mA mB mC mD)) → (((1 + 2 * ((e20.den))) = (((1 + 2 * (((e20.den))))))) ∧ ((1 + 2 * ((e20.den)) + 1) = (((1 + 2 * (((e20.den))) + 1)))))))) ∧ (((-1) ≤ (if heldP ((fun ι => (1 + 2 * ((ι))))) ((fun ι => (1 + 2 * ((ι)) + 1))) (mpN X Y n mA mB mC mD) 1 = true then 1 + 2 * (mpN X Y n mA mB mC mD) else -1) ∧ (if heldP ((fun ι => (1 + 2 * ((ι))))) ((fun ι => (1 + 2 * ((ι)) + 1))) (mpN X Y n mA mB mC mD) 1 = true then 1 + 2 * (mpN X Y n mA mB mC mD) else -1) ≤ 4194304) → ((((if heldP ((fun ι => (1 + 2 * ((ι))))) ((fun ι => (1 + 2 * ((ι)) + 1))) (mpN X Y n mA mB mC mD) 1 = true then 1 + 2 * (mpN X Y n mA mB mC mD) else -1) < 0) → (False)) ∧ ((0 ≤ (if heldP ((fun ι => (1 + 2 * ((ι))))) ((fun ι => (1 + 2 * ((ι)) + 1))) (mpN X Y n mA mB mC mD) 1 = true then 1 + 2 * (mpN X Y n mA mB mC mD) else -1)) → (((if heldP ((fun ι => (1 + 2 * ((ι))))) ((fun ι => (1 + 2 * ((ι)) + 1))) (mpN X Y n mA mB mC mD) 1 = true then 1 + 2 * (mpN X Y n mA mB mC mD) else -1) ≠ (1 + 2 * (mpN X Y n mA mB mC mD))) → (False)))))))))))))))))))))))))))))))))))))))))))))))))))))))))))))))))))))))))))) (by kernel_rfl) ?_
  intro h1 h2
  refine ⟨⟨rfl, rfl⟩, ⟨Int.le_refl _, fun _ => fun _ => ⟨rfl, rfl⟩⟩, ?_⟩
  intro c22
  intro c23
  refine ⟨⟨rfl, ⟨rfl, ⟨rfl, rfl⟩⟩⟩, ?_⟩
  intro c24
  refine ⟨?_, ⟨Int.le_refl _, fun _ => fun _ => ⟨rfl, rfl⟩⟩, ?_⟩
  · refine ⟨rfl, ?_⟩
    intro c25
    -- 1: n ≤ 1048576
    first | rfl | omega | exact eqB_refl _ _ | exact eqP_refl _ _ _ | (simp_all [eqB_refl, eqP_refl, heldB_mark, heldP_mark]; done) | (simp_all [eqB_refl, eqP_refl, heldB_mark, heldP_mark]; omega)
  · intro c26
    refine ⟨⟨⟨rfl, ⟨rfl, ⟨rfl, rfl⟩⟩⟩, rfl⟩, ⟨Int.le_refl _, fun _ => fun _ => ⟨rfl, rfl⟩⟩, ?_⟩
    intro c27
    refine ⟨?_, ⟨Int.le_refl _, fun _ => fun _ => ⟨rfl, rfl⟩⟩, ?_⟩
    · refine ⟨rfl, ?_⟩
      intro c28
      -- 2: n ≤ 1048576
      first | rfl | omega | exact eqB_refl _ _ | exact eqP_refl _ _ _ | (simp_all [eqB_refl, eqP_refl, heldB_mark, heldP_mark]; done) | (simp_all [eqB_refl, eqP_refl, heldB_mark, heldP_mark]; omega)
    · intro c29
      refine ⟨⟨rfl, ⟨rfl, ⟨rfl, rfl⟩⟩⟩, ?_⟩
      intro c30
      refine ⟨⟨⟨rfl, ⟨rfl, ⟨rfl, rfl⟩⟩⟩, rfl⟩, ⟨Int.le_refl _, fun _ => fun _ => ⟨rfl, rfl⟩⟩, ?_⟩
      intro c31
      refine ⟨⟨rfl, rfl⟩, ⟨⟨Int.le_refl _, fun _ => fun _ => ⟨rfl, rfl⟩⟩, ⟨Int.le_refl _, fun _ => fun _ => ⟨rfl, rfl⟩⟩⟩, ?_, ?_⟩
      · intro c32
        -- 3: False
        first | rfl | omega | exact eqB_refl _ _ | exact eqP_refl _ _ _ | (simp_all [eqB_refl, eqP_refl, heldB_mark, heldP_mark]; done) | (simp_all [eqB_refl, eqP_refl, heldB_mark, heldP_mark]; omega)
      · intro c33
        refine ⟨?_, ?_⟩
        · intro c34
          -- 4: False
          first | rfl | omega | exact eqB_refl _ _ | exact eqP_refl _ _ _ | (simp_all [eqB_refl, eqP_refl, heldB_mark, heldP_mark]; done) | (simp_all [eqB_refl, eqP_refl, heldB_mark, heldP_mark]; omega)
        · intro c35
          refine ⟨?_, ⟨Int.le_refl _, fun _ => fun _ => ⟨rfl, rfl⟩⟩, ?_⟩
          · refine ⟨rfl, ?_⟩
            intro c36
            -- 5: n ≤ 1048576
            first | rfl | omega | exact eqB_refl _ _ | exact eqP_refl _ _ _ | (simp_all [eqB_refl, eqP_refl, heldB_mark, heldP_mark]; done) | (simp_all [eqB_refl, eqP_refl, heldB_mark, heldP_mark]; omega)
          · intro c37
            refine ⟨⟨rfl, rfl⟩, ⟨⟨Int.le_refl _, fun _ => fun _ => ⟨rfl, rfl⟩⟩, ⟨Int.le_refl _, fun _ => fun _ => ⟨rfl, rfl⟩⟩⟩, ?_, ?_⟩
            · intro c38
              -- 6: False
              first | rfl | omega | exact eqB_refl _ _ | exact eqP_refl _ _ _ | (simp_all [eqB_refl, eqP_refl, heldB_mark, heldP_mark]; done) | (simp_all [eqB_refl, eqP_refl, heldB_mark, heldP_mark]; omega)
            · intro c39
              refine ⟨⟨rfl, rfl⟩, ⟨Int.le_refl _, fun _ => fun _ => ⟨rfl, rfl⟩⟩, ?_⟩
              intro c40
              refine ⟨?_, ?_⟩
              · intro c41
                -- 7: False
                first | rfl | omega | exact eqB_refl _ _ | exact eqP_refl _ _ _ | (simp_all [eqB_refl, eqP_refl, heldB_mark, heldP_mark]; done) | (simp_all [eqB_refl, eqP_refl, heldB_mark, heldP_mark]; omega)
              · intro c42
                refine ⟨⟨rfl, rfl⟩, ⟨⟨Int.le_refl _, fun _ => fun _ => ⟨rfl, rfl⟩⟩, ⟨Int.le_refl _, fun _ => fun _ => ⟨rfl, rfl⟩⟩⟩, ?_, ?_⟩
                · intro c43
                  -- 8: False
                  first | rfl | omega | exact eqB_refl _ _ | exact eqP_refl _ _ _ | (simp_all [eqB_refl, eqP_refl, heldB_mark, heldP_mark]; done) | (simp_all [eqB_refl, eqP_refl, heldB_mark, heldP_mark]; omega)
                · intro c44
                  refine ⟨?_, ?_⟩
                  · intro c45
                    -- 9: False
                    first | rfl | omega | exact eqB_refl _ _ | exact eqP_refl _ _ _ | (simp_all [eqB_refl, eqP_refl, heldB_mark, heldP_mark]; done) | (simp_all [eqB_refl, eqP_refl, heldB_mark, heldP_mark]; omega)
                  · intro c46
                    refine ⟨⟨rfl, rfl⟩, ⟨Int.le_refl _, fun _ => fun _ => ⟨rfl, rfl⟩⟩, ?_⟩
                    intro c47
                    refine ⟨⟨rfl, rfl⟩, ⟨Int.le_refl _, fun _ => fun _ => ⟨rfl, rfl⟩⟩, ?_⟩
                    intro c48
                    refine ⟨?_, ?_⟩
                    · intro c49
                      -- 10: False
                      first | rfl | omega | exact eqB_refl _ _ | exact eqP_refl _ _ _ | (simp_all [eqB_refl, eqP_refl, heldB_mark, heldP_mark]; done) | (simp_all [eqB_refl, eqP_refl, heldB_mark, heldP_mark]; omega)
                    · intro c50
                      refine ⟨?_, ?_⟩
                      · intro c51
                        -- 11: False
                        first | rfl | omega | exact eqB_refl _ _ | exact eqP_refl _ _ _ | (simp_all [eqB_refl, eqP_refl, heldB_mark, heldP_mark]; done) | (simp_all [eqB_refl, eqP_refl, heldB_mark, heldP_mark]; omega)
                      · intro c52
                        refine ⟨⟨rfl, ⟨rfl, ⟨rfl, rfl⟩⟩⟩, ?_⟩
                        intro c53
                        refine ⟨?_, ⟨Int.le_refl _, fun _ => fun _ => ⟨rfl, rfl⟩⟩, ?_⟩
                        · refine ⟨rfl, ?_⟩
                          intro c54
                          -- 12: n ≤ 1048576
                          first | rfl | omega | exact eqB_refl _ _ | exact eqP_refl _ _ _ | (simp_all [eqB_refl, eqP_refl, heldB_mark, heldP_mark]; done) | (simp_all [eqB_refl, eqP_refl, heldB_mark, heldP_mark]; omega)
                        · intro c55
                          refine ⟨⟨⟨rfl, ⟨rfl, ⟨rfl, rfl⟩⟩⟩, rfl⟩, ⟨Int.le_refl _, fun _ => fun _ => ⟨rfl, rfl⟩⟩, ?_⟩
                          intro c56
                          refine ⟨⟨rfl, rfl⟩, ⟨⟨Int.le_refl _, fun _ => fun _ => ⟨rfl, rfl⟩⟩, ⟨Int.le_refl _, fun _ => fun _ => ⟨rfl, rfl⟩⟩⟩, ?_, ?_⟩
                          · intro c57
                            -- 13: False
                            first | rfl | omega | exact eqB_refl _ _ | exact eqP_refl _ _ _ | (simp_all [eqB_refl, eqP_refl, heldB_mark, heldP_mark]; done) | (simp_all [eqB_refl, eqP_refl, heldB_mark, heldP_mark]; omega)
                          · intro c58
                            refine ⟨?_, ?_⟩
                            · intro c59
                              -- 14: False
                              first | rfl | omega | exact eqB_refl _ _ | exact eqP_refl _ _ _ | (simp_all [eqB_refl, eqP_refl, heldB_mark, heldP_mark]; done) | (simp_all [eqB_refl, eqP_refl, heldB_mark, heldP_mark]; omega)
                            · intro c60
                              refine ⟨⟨rfl, rfl⟩, ⟨Int.le_refl _, fun _ => fun _ => ⟨rfl, rfl⟩⟩, ?_⟩
                              intro c61
                              refine ⟨?_, ?_⟩
                              · intro c62
                                -- 15: False
                                first | rfl | omega | exact eqB_refl _ _ | exact eqP_refl _ _ _ | (simp_all [eqB_refl, eqP_refl, heldB_mark, heldP_mark]; done) | (simp_all [eqB_refl, eqP_refl, heldB_mark, heldP_mark]; omega)
                              · intro c63
                                intro c64
                                -- 16: False
                                first | rfl | omega | exact eqB_refl _ _ | exact eqP_refl _ _ _ | (simp_all [eqB_refl, eqP_refl, heldB_mark, heldP_mark]; done) | (simp_all [eqB_refl, eqP_refl, heldB_mark, heldP_mark]; omega)
def c_l_FnExactMapPoints (mA : Int) (mB : Int) (mC : Int) (mD : Int) (X : Int → Int) (Y : Int → Int) (n : Int) : Cn Try.prog := ⟨_, _, _, _, _, l_FnExactMapPoints mA mB mC mD X Y n⟩
end Go.Proofs.Ytndkhbilefljnaa
