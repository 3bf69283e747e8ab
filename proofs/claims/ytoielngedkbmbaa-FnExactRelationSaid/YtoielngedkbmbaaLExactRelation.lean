/- FnExactRelation: the walk. -/
import Derived.Test.YtoielngedkbmbaaK18
import Derived.Test.YtoielngedkbmbaaK10
set_option linter.unusedSimpArgs false
set_option linter.unusedVariables false
set_option maxRecDepth 100000
namespace Go.Proofs.Ytoielngedkbmbaa
open Go.Sym
theorem l_toSegment (sAX : Int) (sAY : Int) (sBX : Int) (sBY : Int) : RunsTo Try.prog 26 [(.agg [(.int .i64 (.v fun _ => sAX) (-9223372036854775808) 9223372036854775807), (.int .i64 (.v fun _ => sAY) (-9223372036854775808) 9223372036854775807), (.int .i64 (.v fun _ => sBX) (-9223372036854775808) 9223372036854775807), (.int .i64 (.v fun _ => sBY) (-9223372036854775808) 9223372036854775807)])] [] (.agg [(.int .i64 (.v fun _ => sAX) (-9223372036854775808) 9223372036854775807), (.int .i64 (.v fun _ => sAY) (-9223372036854775808) 9223372036854775807), (.int .i64 (.v fun _ => sBX) (-9223372036854775808) 9223372036854775807), (.int .i64 (.v fun _ => sBY) (-9223372036854775808) 9223372036854775807)]) [] := by
  refine RunsTo.go env Try.func26 rfl Try.call26 rfl rfl (fun _ _ => (.call (c_l_toPoint sAX sAY) (.call (c_l_toPoint sBX sBY) .ret))) (G := (((-9223372036854775808) ≤ sAX ∧ sAX ≤ 9223372036854775807) ∧ (((-9223372036854775808) ≤ sAY ∧ sAY ≤ 9223372036854775807) ∧ (((-9223372036854775808) ≤ sBX ∧ sBX ≤ 9223372036854775807) ∧ ((-9223372036854775808) ≤ sBY ∧ sBY ≤ 9223372036854775807)))) → (True) → (((sAX = sAX) ∧ (sAY = sAY)) ∧ (((sBX = sBX) ∧ (sBY = sBY)) ∧ ((sAX = sAX) ∧ ((sAY = sAY) ∧ ((sBX = sBX) ∧ (sBY = sBY))))))) (by kernel_rfl) ?_
  intro h1 h2
  exact ⟨⟨rfl, rfl⟩, ⟨⟨rfl, rfl⟩, ⟨rfl, ⟨rfl, ⟨rfl, rfl⟩⟩⟩⟩⟩
def c_l_toSegment (sAX : Int) (sAY : Int) (sBX : Int) (sBY : Int) : Cn Try.prog := ⟨_, _, _, _, _, l_toSegment sAX sAY sBX sBY⟩
theorem l_FnExactRelation (sAX : Int) (sAY : Int) (sBX : Int) (sBY : Int) (tAX : Int) (tAY : Int) (tBX : Int) (tBY : Int) : RunsTo Try.prog 4 [(.agg [(.int .i64 (.v fun _ => sAX) (-9223372036854775808) 9223372036854775807), (.int .i64 (.v fun _ => sAY) (-9223372036854775808) 9223372036854775807), (.int .i64 (.v fun _ => sBX) (-9223372036854775808) 9223372036854775807), (.int .i64 (.v fun _ => sBY) (-9223372036854775808) 9223372036854775807)]), (.agg [(.int .i64 (.v fun _ => tAX) (-9223372036854775808) 9223372036854775807), (.int .i64 (.v fun _ => tAY) (-9223372036854775808) 9223372036854775807), (.int .i64 (.v fun _ => tBX) (-9223372036854775808) 9223372036854775807), (.int .i64 (.v fun _ => tBY) (-9223372036854775808) 9223372036854775807)])] [] (.bool (.lit true)) [] := by
  refine RunsTo.go env Try.func4 rfl Try.call4 rfl rfl (fun _ _ => (.call (c_l_toSegment sAX sAY sBX sBY) (.callF (c_l_toSegment tAX tAY tBX tBY) (.callF (c_s_Relation sAX sAY sBX sBY tAX tAY tBX tBY) (.call (c_l_toSegment sAX sAY sBX sBY) (.callF (c_l_toSegment tAX tAY tBX tBY) (.callF (c_i_Relation sAX sAY sBX sBY tAX tAY tBX tBY) (.ite .ret .ret)))))))) (G := ((((-9223372036854775808) ≤ sAX ∧ sAX ≤ 9223372036854775807) ∧ (((-9223372036854775808) ≤ sAY ∧ sAY ≤ 9223372036854775807) ∧ (((-9223372036854775808) ≤ sBX ∧ sBX ≤ 9223372036854775807) ∧ ((-9223372036854775808) ≤ sBY ∧ sBY ≤ 9223372036854775807)))) ∧ (((-9223372036854775808) ≤ tAX ∧ tAX ≤ 9223372036854775807) ∧ (((-9223372036854775808) ≤ tAY ∧ tAY ≤ 9223372036854775807) ∧ (((-9223372036854775808) ≤ tBX ∧ tBX ≤ 9223372036854775807) ∧ ((-9223372036854775808) ≤ tBY ∧ tBY ≤ 9223372036854775807))))) → (True) → (((sAX = sAX) ∧ ((sAY = sAY) ∧ ((sBX = sBX) ∧ (sBY = sBY)))) ∧ (((tAX = tAX) ∧ ((tAY = tAY) ∧ ((tBX = tBX) ∧ (tBY = tBY)))) ∧ ((((-9223372036854775808) ≤ tAX ∧ tAX ≤ 9223372036854775807) ∧ (((-9223372036854775808) ≤ tAY ∧ tAY ≤ 9223372036854775807) ∧ (((-9223372036854775808) ≤ tBX ∧ tBX ≤ 9223372036854775807) ∧ ((-9223372036854775808) ≤ tBY ∧ tBY ≤ 9223372036854775807)))) → ((((sAX = sAX) ∧ ((sAY = sAY) ∧ ((sBX = sBX) ∧ (sBY = sBY)))) ∧ ((tAX = tAX) ∧ ((tAY = tAY) ∧ ((tBX = tBX) ∧ (tBY = tBY))))) ∧ (((-1) ≤ (relR sAX sAY sBX sBY tAX tAY tBX tBY) ∧ (relR sAX sAY sBX sBY tAX tAY tBX tBY) ≤ 3) → (((sAX = sAX) ∧ ((sAY = sAY) ∧ ((sBX = sBX) ∧ (sBY = sBY)))) ∧ (((tAX = tAX) ∧ ((tAY = tAY) ∧ ((tBX = tBX) ∧ (tBY = tBY)))) ∧ ((((-9223372036854775808) ≤ tAX ∧ tAX ≤ 9223372036854775807) ∧ (((-9223372036854775808) ≤ tAY ∧ tAY ≤ 9223372036854775807) ∧ (((-9223372036854775808) ≤ tBX ∧ tBX ≤ 9223372036854775807) ∧ ((-9223372036854775808) ≤ tBY ∧ tBY ≤ 9223372036854775807)))) → ((((sAX = sAX) ∧ ((sAY = sAY) ∧ ((sBX = sBX) ∧ (sBY = sBY)))) ∧ ((tAX = tAX) ∧ ((tAY = tAY) ∧ ((tBX = tBX) ∧ (tBY = tBY))))) ∧ (((-1) ≤ (relR sAX sAY sBX sBY tAX tAY tBX tBY) ∧ (relR sAX sAY sBX sBY tAX tAY tBX tBY) ≤ 3) → (((relR sAX sAY sBX sBY tAX tAY tBX tBY) ≠ (relR sAX sAY sBX sBY tAX tAY tBX tBY)) → (False))))))))))))) (by kernel_rfl) ?_
  intro h1 h2
  refine ⟨⟨rfl, ⟨rfl, ⟨rfl, rfl⟩⟩⟩, ⟨rfl, ⟨rfl, ⟨rfl, rfl⟩⟩⟩, ?_⟩
  intro c1
  refine ⟨⟨⟨rfl, ⟨rfl, ⟨rfl, rfl⟩⟩⟩, ⟨rfl, ⟨rfl, ⟨rfl, rfl⟩⟩⟩⟩, ?_⟩
  intro c2
  refine ⟨⟨rfl, ⟨rfl, ⟨rfl, rfl⟩⟩⟩, ⟨rfl, ⟨rfl, ⟨rfl, rfl⟩⟩⟩, ?_⟩
  intro c3
  refine ⟨⟨⟨rfl, ⟨rfl, ⟨rfl, rfl⟩⟩⟩, ⟨rfl, ⟨rfl, ⟨rfl, rfl⟩⟩⟩⟩, ?_⟩
  intro c4
  intro c5
  -- 1: False
  first | rfl | omega | (simp_all; done) | fail
def c_l_FnExactRelation (sAX : Int) (sAY : Int) (sBX : Int) (sBY : Int) (tAX : Int) (tAY : Int) (tBX : Int) (tBY : Int) : Cn Try.prog := ⟨_, _, _, _, _, l_FnExactRelation sAX sAY sBX sBY tAX tAY tBX tBY⟩
end Go.Proofs.Ytoielngedkbmbaa
