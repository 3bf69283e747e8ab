/- FnExactMeetPoint: the walk. -/
import Derived.Test.YtoielngedkbmbaaK19
import Derived.Test.YtoielngedkbmbaaK10
set_option linter.unusedSimpArgs false
set_option linter.unusedVariables false
set_option maxRecDepth 100000
namespace Go.Proofs.Ytoielngedkbmbaa
open Go.Sym
theorem l_toSegment (sAX : Int) (sAY : Int) (sBX : Int) (sBY : Int) : RunsTo Try.prog 26 [(.agg [(.int .i64 (.v fun _ => sAX) (-9223372036854775808) 9223372036854775807), (.int .i64 (.v fun _ => sAY) (-9223372036854775808) 9223372036854775807), (.int .i64 (.v fun _ => sBX) (-9223372036854775808) 9223372036854775807), (.int .i64 (.v fun _ => sBY) (-9223372036854775808) 9223372036854775807)])] [] (.agg [(.int .i64 (.v fun _ => sAX) (-9223372036854775808) 9223372036854775807), (.int .i64 (.v fun _ => sAY) (-9223372036854775808) 9223372036854775807), (.int .i64 (.v fun _ => sBX) (-9223372036854775808) 9223372036854775807), (.int .i64 (.v fun _ => sBY) (-9223372036854775808) 9223372036854775807)]) [] := by
  refine RunsTo.go env Try.func26 rfl Try.call26 rfl rfl (fun _ _ => (.call (c_l_toPoint sAX sAY) (.call (c_l_toPoint sBX sBY) .ret))) (G := (((-9223372036854775808) ≤ sAX ∧ sAX ≤ 9223372036854775807) ∧ (((-9223372036854775808) ≤ sAY ∧ sAY ≤ 9223372036854775807) ∧ (((-9223372036854775808) ≤ sBX ∧ sBX ≤ 9223372036854775807) ∧ ((-9223372036854775808) ≤ sBY ∧ sBY ≤ 9223372036854775807)))) → (True) → (((sAX = sAX) ∧ (sAY = sAY)) ∧ (((sBX = sBX) ∧ (sBY = sBY)) ∧ ((sAX = sAX) ∧ ((sAY = sAY) ∧ ((sBX = sBX) ∧ (sBY = sBY))))))) (by kernel_rfl) ?_
  intro h1 h2
  exact ⟨⟨rfl, rfl⟩, ⟨⟨rfl, rfl⟩, ⟨rfl, ⟨rfl, ⟨rfl, rfl⟩⟩⟩⟩⟩
def c_l_toSegment (sAX : Int) (sAY : Int) (sBX : Int) (sBY : Int) : Cn Try.prog := ⟨_, _, _, _, _, l_toSegment sAX sAY sBX sBY⟩
theorem l_eqRat (aN : Int) (aD : Int) (bN : Int) (bD : Int) : RunsTo Try.prog 97 [(.agg [(.int .i64 (.v fun _ => aN) (-9223372036854775808) 9223372036854775807), (.int .i64 (.v fun _ => aD) (-9223372036854775808) 9223372036854775807)]), (.agg [(.int .i64 (.v fun _ => bN) (-9223372036854775808) 9223372036854775807), (.int .i64 (.v fun _ => bD) (-9223372036854775808) 9223372036854775807)])] [] (.bool (.v fun _ => decide (aN = bN) && decide (aD = bD))) [] := by
  refine RunsTo.go env Try.func97 rfl Try.call97 rfl rfl (fun _ _ => (.ite .ret (.ite .ret .ret))) (G := ((((-9223372036854775808) ≤ aN ∧ aN ≤ 9223372036854775807) ∧ ((-9223372036854775808) ≤ aD ∧ aD ≤ 9223372036854775807)) ∧ (((-9223372036854775808) ≤ bN ∧ bN ≤ 9223372036854775807) ∧ ((-9223372036854775808) ≤ bD ∧ bD ≤ 9223372036854775807))) → (True) → (((aN ≠ bN) → ((decide (aN = bN) && decide (aD = bD)) = false)) ∧ ((aN = bN) → (((aD ≠ bD) → ((decide (aN = bN) && decide (aD = bD)) = false)) ∧ ((aD = bD) → ((decide (aN = bN) && decide (aD = bD)) = true)))))) (by kernel_rfl) ?_
  intro h1 h2
  refine ⟨?_, ?_⟩
  · intro c1
    -- 1: (decide (aN = bN) && decide (aD = bD)) = false
    first | rfl | omega | (simp_all; done) | fail
  · intro c2
    refine ⟨?_, ?_⟩
    · intro c3
      -- 2: (decide (aN = bN) && decide (aD = bD)) = false
      first | rfl | omega | (simp_all; done) | fail
    · intro c4
      -- 3: (decide (aN = bN) && decide (aD = bD)) = true
      first | rfl | omega | (simp_all; done) | fail
def c_l_eqRat (aN : Int) (aD : Int) (bN : Int) (bD : Int) : Cn Try.prog := ⟨_, _, _, _, _, l_eqRat aN aD bN bD⟩
theorem l_eqRatPoint (aXN : Int) (aXD : Int) (aYN : Int) (aYD : Int) (bXN : Int) (bXD : Int) (bYN : Int) (bYD : Int) : RunsTo Try.prog 40 [(.agg [(.int .i64 (.v fun _ => aXN) (-9223372036854775808) 9223372036854775807), (.int .i64 (.v fun _ => aXD) (-9223372036854775808) 9223372036854775807), (.int .i64 (.v fun _ => aYN) (-9223372036854775808) 9223372036854775807), (.int .i64 (.v fun _ => aYD) (-9223372036854775808) 9223372036854775807)]), (.agg [(.int .i64 (.v fun _ => bXN) (-9223372036854775808) 9223372036854775807), (.int .i64 (.v fun _ => bXD) (-9223372036854775808) 9223372036854775807), (.int .i64 (.v fun _ => bYN) (-9223372036854775808) 9223372036854775807), (.int .i64 (.v fun _ => bYD) (-9223372036854775808) 9223372036854775807)])] [] (.bool (.v fun _ => (decide (aXN = bXN) && decide (aXD = bXD)) && (decide (aYN = bYN) && decide (aYD = bYD)))) [] := by
  refine RunsTo.go env Try.func40 rfl Try.call40 rfl rfl (fun _ _ => (.call (c_l_eqRat aXN aXD bXN bXD) (.ite .ret (.call (c_l_eqRat aYN aYD bYN bYD) (.ite .ret .ret))))) (G := ((((-9223372036854775808) ≤ aXN ∧ aXN ≤ 9223372036854775807) ∧ (((-9223372036854775808) ≤ aXD ∧ aXD ≤ 9223372036854775807) ∧ (((-9223372036854775808) ≤ aYN ∧ aYN ≤ 9223372036854775807) ∧ ((-9223372036854775808) ≤ aYD ∧ aYD ≤ 9223372036854775807)))) ∧ (((-9223372036854775808) ≤ bXN ∧ bXN ≤ 9223372036854775807) ∧ (((-9223372036854775808) ≤ bXD ∧ bXD ≤ 9223372036854775807) ∧ (((-9223372036854775808) ≤ bYN ∧ bYN ≤ 9223372036854775807) ∧ ((-9223372036854775808) ≤ bYD ∧ bYD ≤ 9223372036854775807))))) → (True) → ((((aXN = aXN) ∧ (aXD = aXD)) ∧ ((bXN = bXN) ∧ (bXD = bXD))) ∧ ((((decide (aXN = bXN) && decide (aXD = bXD)) = false) → (((decide (aXN = bXN) && decide (aXD = bXD)) && (decide (aYN = bYN) && decide (aYD = bYD))) = false)) ∧ (((decide (aXN = bXN) && decide (aXD = bXD)) = true) → ((((aYN = aYN) ∧ (aYD = aYD)) ∧ ((bYN = bYN) ∧ (bYD = bYD))) ∧ ((((decide (aYN = bYN) && decide (aYD = bYD)) = false) → (((decide (aXN = bXN) && decide (aXD = bXD)) && (decide (aYN = bYN) && decide (aYD = bYD))) = false)) ∧ (((decide (aYN = bYN) && decide (aYD = bYD)) = true) → (((decide (aXN = bXN) && decide (aXD = bXD)) && (decide (aYN = bYN) && decide (aYD = bYD))) = true)))))))) (by kernel_rfl) ?_
  intro h1 h2
  refine ⟨⟨⟨rfl, rfl⟩, ⟨rfl, rfl⟩⟩, ?_, ?_⟩
  · intro c1
    -- 1: ((decide (aXN = bXN) && decide (aXD = bXD)) && (decide (aYN = bYN) && decide (aYD = bYD))) = false
    first | rfl | omega | (simp_all; done) | fail
  · intro c2
    refine ⟨⟨⟨rfl, rfl⟩, ⟨rfl, rfl⟩⟩, ?_, ?_⟩
    · intro c3
      -- 2: ((decide (aXN = bXN) && decide (aXD = bXD)) && (decide (aYN = bYN) && decide (aYD = bYD))) = false
      first | rfl | omega | (simp_all; done) | fail
    · intro c4
      -- 3: ((decide (aXN = bXN) && decide (aXD = bXD)) && (decide (aYN = bYN) && decide (aYD = bYD))) = true
      first | rfl | omega | (simp_all; done) | fail
def c_l_eqRatPoint (aXN : Int) (aXD : Int) (aYN : Int) (aYD : Int) (bXN : Int) (bXD : Int) (bYN : Int) (bYD : Int) : Cn Try.prog := ⟨_, _, _, _, _, l_eqRatPoint aXN aXD aYN aYD bXN bXD bYN bYD⟩
theorem l_FnExactMeetPoint (sAX : Int) (sAY : Int) (sBX : Int) (sBY : Int) (tAX : Int) (tAY : Int) (tBX : Int) (tBY : Int) : RunsTo Try.prog 9 [(.agg [(.int .i64 (.v fun _ => sAX) (-9223372036854775808) 9223372036854775807), (.int .i64 (.v fun _ => sAY) (-9223372036854775808) 9223372036854775807), (.int .i64 (.v fun _ => sBX) (-9223372036854775808) 9223372036854775807), (.int .i64 (.v fun _ => sBY) (-9223372036854775808) 9223372036854775807)]), (.agg [(.int .i64 (.v fun _ => tAX) (-9223372036854775808) 9223372036854775807), (.int .i64 (.v fun _ => tAY) (-9223372036854775808) 9223372036854775807), (.int .i64 (.v fun _ => tBX) (-9223372036854775808) 9223372036854775807), (.int .i64 (.v fun _ => tBY) (-9223372036854775808) 9223372036854775807)])] [] (.bool (.lit true)) [] := by
  refine RunsTo.go env Try.func9 rfl Try.call9 rfl rfl (fun _ _ => (.call (c_l_toSegment sAX sAY sBX sBY) (.call (c_l_toSegment tAX tAY tBX tBY) (.call (c_s_MeetPoint sAX sAY sBX sBY tAX tAY tBX tBY) (.call (c_l_toSegment sAX sAY sBX sBY) (.call (c_l_toSegment tAX tAY tBX tBY) (.call (c_i_MeetPoint sAX sAY sBX sBY tAX tAY tBX tBY) (.call (c_l_eqRatPoint (mpXN sAX sAY sBX sBY tAX tAY tBX tBY) (mpXD sAX sAY sBX sBY tAX tAY tBX tBY) (mpYN sAX sAY sBX sBY tAX tAY tBX tBY) (mpYD sAX sAY sBX sBY tAX tAY tBX tBY) (mpXN sAX sAY sBX sBY tAX tAY tBX tBY) (mpXD sAX sAY sBX sBY tAX tAY tBX tBY) (mpYN sAX sAY sBX sBY tAX tAY tBX tBY) (mpYD sAX sAY sBX sBY tAX tAY tBX tBY)) (.ite .ret (.ite .ret .ret)))))))))) (G := ((((-9223372036854775808) ≤ sAX ∧ sAX ≤ 9223372036854775807) ∧ (((-9223372036854775808) ≤ sAY ∧ sAY ≤ 9223372036854775807) ∧ (((-9223372036854775808) ≤ sBX ∧ sBX ≤ 9223372036854775807) ∧ ((-9223372036854775808) ≤ sBY ∧ sBY ≤ 9223372036854775807)))) ∧ (((-9223372036854775808) ≤ tAX ∧ tAX ≤ 9223372036854775807) ∧ (((-9223372036854775808) ≤ tAY ∧ tAY ≤ 9223372036854775807) ∧ (((-9223372036854775808) ≤ tBX ∧ tBX ≤ 9223372036854775807) ∧ ((-9223372036854775808) ≤ tBY ∧ tBY ≤ 9223372036854775807))))) → (True) → (((sAX = sAX) ∧ ((sAY = sAY) ∧ ((sBX = sBX) ∧ (sBY = sBY)))) ∧ (((tAX = tAX) ∧ ((tAY = tAY) ∧ ((tBX = tBX) ∧ (tBY = tBY)))) ∧ ((((sAX = sAX) ∧ ((sAY = sAY) ∧ ((sBX = sBX) ∧ (sBY = sBY)))) ∧ ((tAX = tAX) ∧ ((tAY = tAY) ∧ ((tBX = tBX) ∧ (tBY = tBY))))) ∧ (((sAX = sAX) ∧ ((sAY = sAY) ∧ ((sBX = sBX) ∧ (sBY = sBY)))) ∧ (((tAX = tAX) ∧ ((tAY = tAY) ∧ ((tBX = tBX) ∧ (tBY = tBY)))) ∧ ((((sAX = sAX) ∧ ((sAY = sAY) ∧ ((sBX = sBX) ∧ (sBY = sBY)))) ∧ ((tAX = tAX) ∧ ((tAY = tAY) ∧ ((tBX = tBX) ∧ (tBY = tBY))))) ∧ (((((mpXN sAX sAY sBX sBY tAX tAY tBX tBY) = (mpXN sAX sAY sBX sBY tAX tAY tBX tBY)) ∧ (((mpXD sAX sAY sBX sBY tAX tAY tBX tBY) = (mpXD sAX sAY sBX sBY tAX tAY tBX tBY)) ∧ (((mpYN sAX sAY sBX sBY tAX tAY tBX tBY) = (mpYN sAX sAY sBX sBY tAX tAY tBX tBY)) ∧ ((mpYD sAX sAY sBX sBY tAX tAY tBX tBY) = (mpYD sAX sAY sBX sBY tAX tAY tBX tBY))))) ∧ (((mpXN sAX sAY sBX sBY tAX tAY tBX tBY) = (mpXN sAX sAY sBX sBY tAX tAY tBX tBY)) ∧ (((mpXD sAX sAY sBX sBY tAX tAY tBX tBY) = (mpXD sAX sAY sBX sBY tAX tAY tBX tBY)) ∧ (((mpYN sAX sAY sBX sBY tAX tAY tBX tBY) = (mpYN sAX sAY sBX sBY tAX tAY tBX tBY)) ∧ ((mpYD sAX sAY sBX sBY tAX tAY tBX tBY) = (mpYD sAX sAY sBX sBY tAX tAY tBX tBY)))))) ∧ (((((decide ((mpXN sAX sAY sBX sBY tAX tAY tBX tBY) = (mpXN sAX sAY sBX sBY tAX tAY tBX tBY)) && decide ((mpXD sAX sAY sBX sBY tAX tAY tBX tBY) = (mpXD sAX sAY sBX sBY tAX tAY tBX tBY))) && (decide ((mpYN sAX sAY sBX sBY tAX tAY tBX tBY) = (mpYN sAX sAY sBX sBY tAX tAY tBX tBY)) && decide ((mpYD sAX sAY sBX sBY tAX tAY tBX tBY) = (mpYD sAX sAY sBX sBY tAX tAY tBX tBY)))) = false) → (False)) ∧ ((((decide ((mpXN sAX sAY sBX sBY tAX tAY tBX tBY) = (mpXN sAX sAY sBX sBY tAX tAY tBX tBY)) && decide ((mpXD sAX sAY sBX sBY tAX tAY tBX tBY) = (mpXD sAX sAY sBX sBY tAX tAY tBX tBY))) && (decide ((mpYN sAX sAY sBX sBY tAX tAY tBX tBY) = (mpYN sAX sAY sBX sBY tAX tAY tBX tBY)) && decide ((mpYD sAX sAY sBX sBY tAX tAY tBX tBY) = (mpYD sAX sAY sBX sBY tAX tAY tBX tBY)))) = true) → (((((mpB sAX sAY sBX sBY tAX tAY tBX tBY) = true) ↔ ((mpB sAX sAY sBX sBY tAX tAY tBX tBY) = false))) → (False)))))))))))) (by kernel_rfl) ?_
  intro h1 h2
  refine ⟨⟨rfl, ⟨rfl, ⟨rfl, rfl⟩⟩⟩, ⟨rfl, ⟨rfl, ⟨rfl, rfl⟩⟩⟩, ⟨⟨rfl, ⟨rfl, ⟨rfl, rfl⟩⟩⟩, ⟨rfl, ⟨rfl, ⟨rfl, rfl⟩⟩⟩⟩, ⟨rfl, ⟨rfl, ⟨rfl, rfl⟩⟩⟩, ⟨rfl, ⟨rfl, ⟨rfl, rfl⟩⟩⟩, ⟨⟨rfl, ⟨rfl, ⟨rfl, rfl⟩⟩⟩, ⟨rfl, ⟨rfl, ⟨rfl, rfl⟩⟩⟩⟩, ⟨⟨rfl, ⟨rfl, ⟨rfl, rfl⟩⟩⟩, ⟨rfl, ⟨rfl, ⟨rfl, rfl⟩⟩⟩⟩, ?_, ?_⟩
  · intro c1
    -- 1: False
    first | rfl | omega | (simp_all; done) | fail
  · intro c2
    intro c3
    -- 2: False
    first | rfl | omega | (simp_all; done) | fail
def c_l_FnExactMeetPoint (sAX : Int) (sAY : Int) (sBX : Int) (sBY : Int) (tAX : Int) (tAY : Int) (tBX : Int) (tBY : Int) : Cn Try.prog := ⟨_, _, _, _, _, l_FnExactMeetPoint sAX sAY sBX sBY tAX tAY tBX tBY⟩
end Go.Proofs.Ytoielngedkbmbaa
