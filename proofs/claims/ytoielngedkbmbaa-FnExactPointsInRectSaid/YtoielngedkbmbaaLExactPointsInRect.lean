/- FnExactPointsInRect: the walk. -/
import Derived.Test.YtoielngedkbmbaaK6
import Derived.Test.YtoielngedkbmbaaK10
set_option linter.unusedSimpArgs false
set_option linter.unusedVariables false
set_option maxRecDepth 100000
namespace Go.Proofs.Ytoielngedkbmbaa
open Go.Sym
theorem l_toRect (rlX : Int) (rlY : Int) (rhX : Int) (rhY : Int) : RunsTo Try.prog 18 [(.agg [(.int .i64 (.v fun _ => rlX) (-9223372036854775808) 9223372036854775807), (.int .i64 (.v fun _ => rlY) (-9223372036854775808) 9223372036854775807), (.int .i64 (.v fun _ => rhX) (-9223372036854775808) 9223372036854775807), (.int .i64 (.v fun _ => rhY) (-9223372036854775808) 9223372036854775807)])] [] (.agg [(.int .i64 (.v fun _ => rlX) (-9223372036854775808) 9223372036854775807), (.int .i64 (.v fun _ => rlY) (-9223372036854775808) 9223372036854775807), (.int .i64 (.v fun _ => rhX) (-9223372036854775808) 9223372036854775807), (.int .i64 (.v fun _ => rhY) (-9223372036854775808) 9223372036854775807)]) [] := by
  refine RunsTo.go env Try.func18 rfl Try.call18 rfl rfl (fun _ _ => (.call (c_l_toPoint rlX rlY) (.call (c_l_toPoint rhX rhY) .ret))) (G := (((-9223372036854775808) ≤ rlX ∧ rlX ≤ 9223372036854775807) ∧ (((-9223372036854775808) ≤ rlY ∧ rlY ≤ 9223372036854775807) ∧ (((-9223372036854775808) ≤ rhX ∧ rhX ≤ 9223372036854775807) ∧ ((-9223372036854775808) ≤ rhY ∧ rhY ≤ 9223372036854775807)))) → (True) → (((rlX = rlX) ∧ (rlY = rlY)) ∧ (((rhX = rhX) ∧ (rhY = rhY)) ∧ ((rlX = rlX) ∧ ((rlY = rlY) ∧ ((rhX = rhX) ∧ (rhY = rhY))))))) (by kernel_rfl) ?_
  intro h1 h2
  exact ⟨⟨rfl, rfl⟩, ⟨⟨rfl, rfl⟩, ⟨rfl, ⟨rfl, ⟨rfl, rfl⟩⟩⟩⟩⟩
def c_l_toRect (rlX : Int) (rlY : Int) (rhX : Int) (rhY : Int) : Cn Try.prog := ⟨_, _, _, _, _, l_toRect rlX rlY rhX rhY⟩
theorem l_FnExactPointsInRect (X : Int → Int) (Y : Int → Int) (n : Int) (rlX : Int) (rlY : Int) (rhX : Int) (rhY : Int) : RunsTo Try.prog 3 [(.sl 0 2 (.lit 0) (.v fun _ => n) 9223372036854775807), (.agg [(.int .i64 (.v fun _ => rlX) (-9223372036854775808) 9223372036854775807), (.int .i64 (.v fun _ => rlY) (-9223372036854775808) 9223372036854775807), (.int .i64 (.v fun _ => rhX) (-9223372036854775808) 9223372036854775807), (.int .i64 (.v fun _ => rhY) (-9223372036854775808) 9223372036854775807)])] [some ⟨24, 2, false, (.sym (.v fun _ => n) fun e => [(.int .i64 (.v fun _ => (X (e.den))) (-9223372036854775808) 9223372036854775807), (.int .i64 (.v fun _ => (Y (e.den))) (-9223372036854775808) 9223372036854775807)])⟩] (.bool (.lit true)) [none] := by
  refine RunsTo.go env Try.func3 rfl Try.call3 rfl rfl (fun _ _ => (.callF (c_l_szPointS X Y n 1048576) (.ite .ret (.call (c_l_toPointS X Y n) (.callF (c_l_toRect rlX rlY rhX rhY) (.callF (c_s_PointsInRect X Y n rlX rlY rhX rhY) (.callF (c_l_toPointS X Y n) (.callF (c_l_toRect rlX rlY rhX rhY) (.callF (c_i_PointsInRect X Y n rlX rlY rhX rhY) (.call (c_l_eqIntS (selL (pir X Y n rlX rlY rhX rhY)) (len' (pir X Y n rlX rlY rhX rhY)) (selL (pir X Y n rlX rlY rhX rhY)) (len' (pir X Y n rlX rlY rhX rhY))) (.ite .ret (.callF (c_l_toPointS X Y n) (.call (c_l_eqPointS X Y n X Y n) (.ite .ret (.callF (c_l_markPointS X Y n 1) (.ite .ret (.call (c_l_eqIntS (selL (pir X Y n rlX rlY rhX rhY)) (len' (pir X Y n rlX rlY rhX rhY)) (selL (pir X Y n rlX rlY rhX rhY)) (len' (pir X Y n rlX rlY rhX rhY))) (.ite .ret (.callF (c_l_markIntS (selL (pir X Y n rlX rlY rhX rhY)) (len' (pir X Y n rlX rlY rhX rhY)) 1) (.callF (c_l_heldIntS (fun ι => 1 + (ι)) (len' (pir X Y n rlX rlY rhX rhY)) 1) (.ite .ret (.ite .ret (.call (c_l_toPointS X Y n) (.callF (c_l_toRect rlX rlY rhX rhY) (.callF (c_i_PointsInRect X Y n rlX rlY rhX rhY) (.call (c_l_eqIntS (selL (pir X Y n rlX rlY rhX rhY)) (len' (pir X Y n rlX rlY rhX rhY)) (selL (pir X Y n rlX rlY rhX rhY)) (len' (pir X Y n rlX rlY rhX rhY))) (.ite .ret (.callF (c_l_heldIntS ((fun ι => (1 + ((ι))))) (len' (pir X Y n rlX rlY rhX rhY)) 1) (.ite .ret (.ite .ret .ret)))))))))))))))))))))))))))))) (G := ((0 ≤ n ∧ n ≤ 9223372036854775807) ∧ (((-9223372036854775808) ≤ rlX ∧ rlX ≤ 9223372036854775807) ∧ (((-9223372036854775808) ≤ rlY ∧ rlY ≤ 9223372036854775807) ∧ (((-9223372036854775808) ≤ rhX ∧ rhX ≤ 9223372036854775807) ∧ ((-9223372036854775808) ≤ rhY ∧ rhY ≤ 9223372036854775807))))) → (∀ e21 : E, ((0 ≤ e21.den ∧ e21.den < n) → (((-9223372036854775808) ≤ ((X (e21.den))) ∧ ((X (e21.den))) ≤ 9223372036854775807) ∧ ((-9223372036854775808) ≤ ((Y (e21.den))) ∧ ((Y (e21.den))) ≤ 9223372036854775807)))) → (((n = n) ∧ ((1048576 : Int) = 1048576)) ∧ (((n ≤ n) ∧ (∀ e1 : E, ((0 ≤ e1.den ∧ e1.den < n) → ((((X (e1.den))) = ((X (e1.den)))) ∧ (((Y (e1.den))) = ((Y (e1.den)))))))) ∧ (((-1) ≤ (if 1048576 - n < 0 then -1 else 1048576 - n) ∧ (if 1048576 - n < 0 then -1 else 1048576 - n) ≤ 1048576) → ((0 ≤ (if 1048576 - n < 0 then -1 else 1048576 - n)) → (((n = n) ∧ ((n ≤ 9223372036854775807) → (n ≤ 1048576))) ∧ (((n ≤ n) ∧ (∀ e2 : E, ((0 ≤ e2.den ∧ e2.den < n) → ((((X (e2.den))) = ((X (e2.den)))) ∧ (((Y (e2.den))) = ((Y (e2.den)))))))) ∧ (((rlX = rlX) ∧ ((rlY = rlY) ∧ ((rhX = rhX) ∧ (rhY = rhY)))) ∧ ((((-9223372036854775808) ≤ rlX ∧ rlX ≤ 9223372036854775807) ∧ (((-9223372036854775808) ≤ rlY ∧ rlY ≤ 9223372036854775807) ∧ (((-9223372036854775808) ≤ rhX ∧ rhX ≤ 9223372036854775807) ∧ ((-9223372036854775808) ≤ rhY ∧ rhY ≤ 9223372036854775807)))) → (((n = n) ∧ ((rlX = rlX) ∧ ((rlY = rlY) ∧ ((rhX = rhX) ∧ (rhY = rhY))))) ∧ (((n ≤ n) ∧ (∀ e3 : E, ((0 ≤ e3.den ∧ e3.den < n) → ((((X (e3.den))) = ((X (e3.den)))) ∧ (((Y (e3.den))) = ((Y (e3.den)))))))) ∧ ((0 ≤ (len' (pir X Y n rlX rlY rhX rhY)) ∧ (len' (pir X Y n rlX rlY rhX rhY)) ≤ 1048576) → (((n = n) ∧ ((n ≤ 9223372036854775807) → (n ≤ 1048576))) ∧ (((n ≤ n) ∧ (∀ e4 : E, ((0 ≤ e4.den ∧ e4.den < n) → ((((X (e4.den))) = ((X (e4.den)))) ∧ (((Y (e4.den))) = ((Y (e4.den)))))))) ∧ ((0 ≤ n ∧ n ≤ 1048576) → (((rlX = rlX) ∧ ((rlY = rlY) ∧ ((rhX = rhX) ∧ (rhY = rhY)))) ∧ ((((-9223372036854775808) ≤ rlX ∧ rlX ≤ 9223372036854775807) ∧ (((-9223372036854775808) ≤ rlY ∧ rlY ≤ 9223372036854775807) ∧ (((-9223372036854775808) ≤ rhX ∧ rhX ≤ 9223372036854775807) ∧ ((-9223372036854775808) ≤ rhY ∧ rhY ≤ 9223372036854775807)))) → (((n = n) ∧ ((rlX = rlX) ∧ ((rlY = rlY) ∧ ((rhX = rhX) ∧ (rhY = rhY))))) ∧ (((n ≤ n) ∧ (∀ e5 : E, ((0 ≤ e5.den ∧ e5.den < n) → ((((X (e5.den))) = ((X (e5.den)))) ∧ (((Y (e5.den))) = ((Y (e5.den)))))))) ∧ ((0 ≤ (len' (pir X Y n rlX rlY rhX rhY)) ∧ (len' (pir X Y n rlX rlY rhX rhY)) ≤ 1048576) → ((((len' (pir X Y n rlX rlY rhX rhY)) = (len' (pir X Y n rlX rlY rhX rhY))) ∧ ((len' (pir X Y n rlX rlY rhX rhY)) = (len' (pir X Y n rlX rlY rhX rhY)))) ∧ (((((len' (pir X Y n rlX rlY rhX rhY)) ≤ (len' (pir X Y n rlX rlY rhX rhY))) ∧ (∀ e7 : E, ((0 ≤ e7.den ∧ e7.den < (len' (pir X Y n rlX rlY rhX rhY))) → ((selL (pir X Y n rlX rlY rhX rhY) (e7.den)) = (selL (pir X Y n rlX rlY rhX rhY) ((e7.den))))))) ∧ (((len' (pir X Y n rlX rlY rhX rhY)) ≤ (len' (pir X Y n rlX rlY rhX rhY))) ∧ (∀ e6 : E, ((0 ≤ e6.den ∧ e6.den < (len' (pir X Y n rlX rlY rhX rhY))) → ((selL (pir X Y n rlX rlY rhX rhY) (e6.den)) = (selL (pir X Y n rlX rlY rhX rhY) ((e6.den)))))))) ∧ ((((eqB (selL (pir X Y n rlX rlY rhX rhY)) (len' (pir X Y n rlX rlY rhX rhY)) (selL (pir X Y n rlX rlY rhX rhY)) (len' (pir X Y n rlX rlY rhX rhY))) = false) → (False)) ∧ (((eqB (selL (pir X Y n rlX rlY rhX rhY)) (len' (pir X Y n rlX rlY rhX rhY)) (selL (pir X Y n rlX rlY rhX rhY)) (len' (pir X Y n rlX rlY rhX rhY))) = true) → (((n = n) ∧ ((n ≤ 9223372036854775807) → (n ≤ 1048576))) ∧ (((n ≤ n) ∧ (∀ e8 : E, ((0 ≤ e8.den ∧ e8.den < n) → ((((X (e8.den))) = ((X (e8.den)))) ∧ (((Y (e8.den))) = ((Y (e8.den)))))))) ∧ ((0 ≤ n ∧ n ≤ 1048576) → (((n = n) ∧ (n = n)) ∧ ((((n ≤ n) ∧ (∀ e10 : E, ((0 ≤ e10.den ∧ e10.den < n) → ((((X (e10.den))) = ((X (e10.den)))) ∧ (((Y (e10.den))) = ((Y (e10.den)))))))) ∧ ((n ≤ n) ∧ (∀ e9 : E, ((0 ≤ e9.den ∧ e9.den < n) → ((((X (e9.den))) = ((X (e9.den)))) ∧ (((Y (e9.den))) = ((Y (e9.den))))))))) ∧ ((((eqP X Y n X Y n) = false) → (False)) ∧ (((eqP X Y n X Y n) = true) → (((n = n) ∧ ((1 : Int) = 1)) ∧ (((n ≤ n) ∧ (∀ e11 : E, ((0 ≤ e11.den ∧ e11.den < n) → ((((X (e11.den))) = ((X (e11.den)))) ∧ (((Y (e11.den))) = ((Y (e11.den)))))))) ∧ ((0 ≤ (1 + 2 * n) ∧ (1 + 2 * n) ≤ 4194304) → ((((1 + 2 * n) < 0) → (False)) ∧ ((0 ≤ (1 + 2 * n)) → ((((len' (pir X Y n rlX rlY rhX rhY)) = (len' (pir X Y n rlX rlY rhX rhY))) ∧ ((len' (pir X Y n rlX rlY rhX rhY)) = (len' (pir X Y n rlX rlY rhX rhY)))) ∧ (((((len' (pir X Y n rlX rlY rhX rhY)) ≤ (len' (pir X Y n rlX rlY rhX rhY))) ∧ (∀ e13 : E, ((0 ≤ e13.den ∧ e13.den < (len' (pir X Y n rlX rlY rhX rhY))) → ((selL (pir X Y n rlX rlY rhX rhY) ((e13.den))) = (((selL (pir X Y n rlX rlY rhX rhY) (((e13.den)))))))))) ∧ (((len' (pir X Y n rlX rlY rhX rhY)) ≤ (len' (pir X Y n rlX rlY rhX rhY))) ∧ (∀ e12 : E, ((0 ≤ e12.den ∧ e12.den < (len' (pir X Y n rlX rlY rhX rhY))) → ((selL (pir X Y n rlX rlY rhX rhY) ((e12.den))) = (((selL (pir X Y n rlX rlY rhX rhY) (((e12.den))))))))))) ∧ ((((eqB (selL (pir X Y n rlX rlY rhX rhY)) (len' (pir X Y n rlX rlY rhX rhY)) (selL (pir X Y n rlX rlY rhX rhY)) (len' (pir X Y n rlX rlY rhX rhY))) = false) → (False)) ∧ (((eqB (selL (pir X Y n rlX rlY rhX rhY)) (len' (pir X Y n rlX rlY rhX rhY)) (selL (pir X Y n rlX rlY rhX rhY)) (len' (pir X Y n rlX rlY rhX rhY))) = true) → ((((len' (pir X Y n rlX rlY rhX rhY)) = (len' (pir X Y n rlX rlY rhX rhY))) ∧ ((1 : Int) = 1)) ∧ ((((len' (pir X Y n rlX rlY rhX rhY)) ≤ (len' (pir X Y n rlX rlY rhX rhY))) ∧ (∀ e14 : E, ((0 ≤ e14.den ∧ e14.den < (len' (pir X Y n rlX rlY rhX rhY))) → ((((selL (pir X Y n rlX rlY rhX rhY) (((e14.den)))))) = ((((selL (pir X Y n rlX rlY rhX rhY) ((((e14.den)))))))))))) ∧ ((0 ≤ (1 + (len' (pir X Y n rlX rlY rhX rhY))) ∧ (1 + (len' (pir X Y n rlX rlY rhX rhY))) ≤ 4194304) → ((((len' (pir X Y n rlX rlY rhX rhY)) = (len' (pir X Y n rlX rlY rhX rhY))) ∧ ((1 : Int) = 1)) ∧ ((((len' (pir X Y n rlX rlY rhX rhY)) ≤ (len' (pir X Y n rlX rlY rhX rhY))) ∧ (∀ e15 : E, ((0 ≤ e15.den ∧ e15.den < (len' (pir X Y n rlX rlY rhX rhY))) → ((1 + (e15.den)) = (1 + ((e15.den))))))) ∧ (((-1) ≤ (if heldB (fun ι => 1 + (ι)) (len' (pir X Y n rlX rlY rhX rhY)) 1 = true then 1 + (len' (pir X Y n rlX rlY rhX rhY)) else -1) ∧ (if heldB (fun ι => 1 + (ι)) (len' (pir X Y n rlX rlY rhX rhY)) 1 = true then 1 + (len' (pir X Y n rlX rlY rhX rhY)) else -1) ≤ 4194304) → ((((if heldB (fun ι => 1 + (ι)) (len' (pir X Y n rlX rlY rhX rhY)) 1 = true then 1 + (len' (pir X Y n rlX rlY rhX rhY)) else -1) < 0) → (False)) ∧ ((0 ≤ (if heldB (fun ι => 1 + (ι)) (len' (pir X Y n rlX rlY rhX rhY)) 1 = true then 1 + (len' (pir X Y n rlX rlY rhX rhY)) else -1)) → ((((if heldB (fun ι => 1 + (ι)) (len' (pir X Y n rlX rlY rhX rhY)) 1 = true then 1 + (len' (pir X Y n rlX rlY rhX rhY)) else -1) ≠ (1 + (len' (pir X Y n rlX rlY rhX rhY)))) → (False)) ∧ (((if heldB (fun ι => 1 + (ι)) (len' (pir X Y n rlX rlY rhX rhY)) 1 = true then 1 + (len' (pir X Y n rlX rlY rhX rhY)) else -1) = (1 + (len' (pir X Y n rlX rlY rhX rhY)))) → (((n = n) ∧ ((n ≤ 9223372036854775807) → (n ≤ 1048576))) ∧ (((n ≤ n) ∧ (∀ e16 : E, ((0 ≤ e16.den ∧ e16.den < n) → ((((X (e16.den))) = ((X (e16.den)))) ∧ (((Y (e16.den))) = ((Y (e16.den)))))))) ∧ (((rlX = rlX) ∧ ((rlY = rlY) ∧ ((rhX = rhX) ∧ (rhY = rhY)))) ∧ ((((-9223372036854775808) ≤ rlX ∧ rlX ≤ 9223372036854775807) ∧ (((-9223372036854775808) ≤ rlY ∧ rlY ≤ 9223372036854775807) ∧ (((-9223372036854775808) ≤ rhX ∧ rhX ≤ 9223372036854775807) ∧ ((-9223372036854775808) ≤ rhY ∧ rhY ≤ 9223372036854775807)))) → (((n = n) ∧ ((rlX = rlX) ∧ ((rlY = rlY) ∧ ((rhX = rhX) ∧ (rhY = rhY))))) ∧ (((n ≤ n) ∧ (∀ e17 : E, ((0 ≤ e17.den ∧ e17.den < n) → ((((X (e17.den))) = ((X (e17.den)))) ∧ (((Y (e17.den))) = ((Y (e17.den)))))))) ∧ ((0 ≤ (len' (pir X Y n rlX rlY rhX rhY)) ∧ (len' (pir X Y n rlX rlY rhX rhY)) ≤ 1048576) → ((((len' (pir X Y n rlX rlY rhX rhY)) = (len' (pir X Y n rlX rlY rhX rhY))) ∧ ((len' (pir X Y n rlX rlY rhX rhY)) = (len' (pir X Y n rlX rlY rhX rhY)))) ∧ (((((len' (pir X Y n rlX rlY rhX rhY)) ≤ (len' (pir X Y n rlX rlY rhX rhY))) ∧ (∀ e19 : E, ((0 ≤ e19.den ∧ e19.den < (len' (pir X Y n rlX rlY rhX rhY))) → ((selL (pir X Y n rlX rlY rhX rhY) (e19.den)) = (selL (pir X Y n rlX rlY rhX rhY) ((e19.den))))))) ∧ (((len' (pir X Y n rlX rlY rhX rhY)) ≤ (len' (pir X Y n rlX rlY rhX rhY))) ∧ (∀ e18 : E, ((0 ≤ e18.den ∧ e18.den < (len' (pir X Y n rlX rlY rhX rhY))) → ((((selL (pir X Y n rlX rlY rhX rhY) (((e18.den)))))) = ((((selL (pir X Y n rlX rlY rhX rhY) ((((e18.den))))))))))))) ∧ ((((eqB (selL (pir X Y n rlX rlY rhX rhY)) (len' (pir X Y n rlX rlY rhX rhY)) (selL (pir X Y n rlX rlY rhX rhY)) (len' (pir X Y n rlX rlY rhX rhY))) = false) → (False)) ∧ (((eqB (selL (pir X Y n rlX rlY rhX rhY)) (len' (pir X Y n rlX rlY rhX rhY)) (selL (pir X Y n rlX rlY rhX rhY)) (len' (pir X Y n rlX rlY rhX rhY))) = true) → ((((len' (pir X Y n rlX rlY rhX rhY)) = (len' (pir X Y n rlX rlY rhX rhY))) ∧ ((1 : Int) = 1)) ∧ ((((len' (pir X Y n rlX rlY rhX rhY)) ≤ (len' (pir X Y n rlX rlY rhX rhY))) ∧ (∀ e20 : E, ((0 ≤ e20.den ∧ e20.den < (len' (pir X Y n rlX rlY rhX rhY))) → ((1 + ((e20.den))) = (((1 + (((e20.den)))))))))) ∧ (((-1) ≤ (if heldB ((fun ι => (1 + ((ι))))) (len' (pir X Y n rlX rlY rhX rhY)) 1 = true then 1 + (len' (pir X Y n rlX rlY rhX rhY)) else -1) ∧ (if heldB ((fun ι => (1 + ((ι))))) (len' (pir X Y n rlX rlY rhX rhY)) 1 = true then 1 + (len' (pir X Y n rlX rlY rhX rhY)) else -1) ≤ 4194304) → ((((if heldB ((fun ι => (1 + ((ι))))) (len' (pir X Y n rlX rlY rhX rhY)) 1 = true then 1 + (len' (pir X Y n rlX rlY rhX rhY)) else -1) < 0) → (False)) ∧ ((0 ≤ (if heldB ((fun ι => (1 + ((ι))))) (len' (pir X Y n rlX rlY rhX rhY)) 1 = true then 1 + (len' (pir X Y n rlX rlY rhX rhY)) else -1)) → (((if heldB ((fun ι => (1 + ((ι))))) (len' (pir X Y n rlX rlY rhX rhY)) 1 = true then 1 + (len' (pir X Y n rlX rlY rhX rhY)) else -1) ≠ (1 + (len' (pir X Y n rlX rlY rhX rhY)))) → (False)))))))))))))))))))))))))))))))))))))))))))))))))))))))))))))))))))) (by kernel_rfl) ?_
  intro h1 h2
  refine ⟨⟨rfl, rfl⟩, ⟨Int.le_refl _, fun _ => fun _ => ⟨rfl, rfl⟩⟩, ?_⟩
  intro c22
  intro c23
  refine ⟨?_, ⟨Int.le_refl _, fun _ => fun _ => ⟨rfl, rfl⟩⟩, ⟨rfl, ⟨rfl, ⟨rfl, rfl⟩⟩⟩, ?_⟩
  · refine ⟨rfl, ?_⟩
    intro c24
    -- 1: n ≤ 1048576
    first | rfl | omega | exact eqB_refl _ _ | exact eqP_refl _ _ _ | (simp_all [eqB_refl, eqP_refl, heldB_mark, heldP_mark]; done) | (simp_all [eqB_refl, eqP_refl, heldB_mark, heldP_mark]; omega) | fail
  · intro c25
    refine ⟨⟨rfl, ⟨rfl, ⟨rfl, ⟨rfl, rfl⟩⟩⟩⟩, ⟨Int.le_refl _, fun _ => fun _ => ⟨rfl, rfl⟩⟩, ?_⟩
    intro c26
    refine ⟨?_, ⟨Int.le_refl _, fun _ => fun _ => ⟨rfl, rfl⟩⟩, ?_⟩
    · refine ⟨rfl, ?_⟩
      intro c27
      -- 2: n ≤ 1048576
      first | rfl | omega | exact eqB_refl _ _ | exact eqP_refl _ _ _ | (simp_all [eqB_refl, eqP_refl, heldB_mark, heldP_mark]; done) | (simp_all [eqB_refl, eqP_refl, heldB_mark, heldP_mark]; omega) | fail
    · intro c28
      refine ⟨⟨rfl, ⟨rfl, ⟨rfl, rfl⟩⟩⟩, ?_⟩
      intro c29
      refine ⟨⟨rfl, ⟨rfl, ⟨rfl, ⟨rfl, rfl⟩⟩⟩⟩, ⟨Int.le_refl _, fun _ => fun _ => ⟨rfl, rfl⟩⟩, ?_⟩
      intro c30
      refine ⟨⟨rfl, rfl⟩, ⟨⟨Int.le_refl _, fun _ => fun _ => rfl⟩, ⟨Int.le_refl _, fun _ => fun _ => rfl⟩⟩, ?_, ?_⟩
      · intro c31
        -- 3: False
        first | rfl | omega | exact eqB_refl _ _ | exact eqP_refl _ _ _ | (simp_all [eqB_refl, eqP_refl, heldB_mark, heldP_mark]; done) | (simp_all [eqB_refl, eqP_refl, heldB_mark, heldP_mark]; omega) | fail
      · intro c32
        refine ⟨?_, ⟨Int.le_refl _, fun _ => fun _ => ⟨rfl, rfl⟩⟩, ?_⟩
        · refine ⟨rfl, ?_⟩
          intro c33
          -- 4: n ≤ 1048576
          first | rfl | omega | exact eqB_refl _ _ | exact eqP_refl _ _ _ | (simp_all [eqB_refl, eqP_refl, heldB_mark, heldP_mark]; done) | (simp_all [eqB_refl, eqP_refl, heldB_mark, heldP_mark]; omega) | fail
        · intro c34
          refine ⟨⟨rfl, rfl⟩, ⟨⟨Int.le_refl _, fun _ => fun _ => ⟨rfl, rfl⟩⟩, ⟨Int.le_refl _, fun _ => fun _ => ⟨rfl, rfl⟩⟩⟩, ?_, ?_⟩
          · intro c35
            -- 5: False
            first | rfl | omega | exact eqB_refl _ _ | exact eqP_refl _ _ _ | (simp_all [eqB_refl, eqP_refl, heldB_mark, heldP_mark]; done) | (simp_all [eqB_refl, eqP_refl, heldB_mark, heldP_mark]; omega) | fail
          · intro c36
            refine ⟨⟨rfl, rfl⟩, ⟨Int.le_refl _, fun _ => fun _ => ⟨rfl, rfl⟩⟩, ?_⟩
            intro c37
            refine ⟨?_, ?_⟩
            · intro c38
              -- 6: False
              first | rfl | omega | exact eqB_refl _ _ | exact eqP_refl _ _ _ | (simp_all [eqB_refl, eqP_refl, heldB_mark, heldP_mark]; done) | (simp_all [eqB_refl, eqP_refl, heldB_mark, heldP_mark]; omega) | fail
            · intro c39
              refine ⟨⟨rfl, rfl⟩, ⟨⟨Int.le_refl _, fun _ => fun _ => rfl⟩, ⟨Int.le_refl _, fun _ => fun _ => rfl⟩⟩, ?_, ?_⟩
              · intro c40
                -- 7: False
                first | rfl | omega | exact eqB_refl _ _ | exact eqP_refl _ _ _ | (simp_all [eqB_refl, eqP_refl, heldB_mark, heldP_mark]; done) | (simp_all [eqB_refl, eqP_refl, heldB_mark, heldP_mark]; omega) | fail
              · intro c41
                refine ⟨⟨rfl, rfl⟩, ⟨Int.le_refl _, fun _ => fun _ => rfl⟩, ?_⟩
                intro c42
                refine ⟨⟨rfl, rfl⟩, ⟨Int.le_refl _, fun _ => fun _ => rfl⟩, ?_⟩
                intro c43
                refine ⟨?_, ?_⟩
                · intro c44
                  -- 8: False
                  first | rfl | omega | exact eqB_refl _ _ | exact eqP_refl _ _ _ | (simp_all [eqB_refl, eqP_refl, heldB_mark, heldP_mark]; done) | (simp_all [eqB_refl, eqP_refl, heldB_mark, heldP_mark]; omega) | fail
                · intro c45
                  refine ⟨?_, ?_⟩
                  · intro c46
                    -- 9: False
                    first | rfl | omega | exact eqB_refl _ _ | exact eqP_refl _ _ _ | (simp_all [eqB_refl, eqP_refl, heldB_mark, heldP_mark]; done) | (simp_all [eqB_refl, eqP_refl, heldB_mark, heldP_mark]; omega) | fail
                  · intro c47
                    refine ⟨?_, ⟨Int.le_refl _, fun _ => fun _ => ⟨rfl, rfl⟩⟩, ⟨rfl, ⟨rfl, ⟨rfl, rfl⟩⟩⟩, ?_⟩
                    · refine ⟨rfl, ?_⟩
                      intro c48
                      -- 10: n ≤ 1048576
                      first | rfl | omega | exact eqB_refl _ _ | exact eqP_refl _ _ _ | (simp_all [eqB_refl, eqP_refl, heldB_mark, heldP_mark]; done) | (simp_all [eqB_refl, eqP_refl, heldB_mark, heldP_mark]; omega) | fail
                    · intro c49
                      refine ⟨⟨rfl, ⟨rfl, ⟨rfl, ⟨rfl, rfl⟩⟩⟩⟩, ⟨Int.le_refl _, fun _ => fun _ => ⟨rfl, rfl⟩⟩, ?_⟩
                      intro c50
                      refine ⟨⟨rfl, rfl⟩, ⟨⟨Int.le_refl _, fun _ => fun _ => rfl⟩, ⟨Int.le_refl _, fun _ => fun _ => rfl⟩⟩, ?_, ?_⟩
                      · intro c51
                        -- 11: False
                        first | rfl | omega | exact eqB_refl _ _ | exact eqP_refl _ _ _ | (simp_all [eqB_refl, eqP_refl, heldB_mark, heldP_mark]; done) | (simp_all [eqB_refl, eqP_refl, heldB_mark, heldP_mark]; omega) | fail
                      · intro c52
                        refine ⟨⟨rfl, rfl⟩, ⟨Int.le_refl _, fun _ => fun _ => rfl⟩, ?_⟩
                        intro c53
                        refine ⟨?_, ?_⟩
                        · intro c54
                          -- 12: False
                          first | rfl | omega | exact eqB_refl _ _ | exact eqP_refl _ _ _ | (simp_all [eqB_refl, eqP_refl, heldB_mark, heldP_mark]; done) | (simp_all [eqB_refl, eqP_refl, heldB_mark, heldP_mark]; omega) | fail
                        · intro c55
                          intro c56
                          -- 13: False
                          first | rfl | omega | exact eqB_refl _ _ | exact eqP_refl _ _ _ | (simp_all [eqB_refl, eqP_refl, heldB_mark, heldP_mark]; done) | (simp_all [eqB_refl, eqP_refl, heldB_mark, heldP_mark]; omega) | fail
def c_l_FnExactPointsInRect (X : Int → Int) (Y : Int → Int) (n : Int) (rlX : Int) (rlY : Int) (rhX : Int) (rhY : Int) : Cn Try.prog := ⟨_, _, _, _, _, l_FnExactPointsInRect X Y n rlX rlY rhX rhY⟩
end Go.Proofs.Ytoielngedkbmbaa
