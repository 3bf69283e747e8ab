/- FnMaximaExtreme: the walk. -/
import Derived.Test.YtheehhfmdmflmaaK8
import Derived.Test.YtheehhfmdmflmaaR6
set_option linter.unusedSimpArgs false
set_option linter.unusedVariables false
set_option maxRecDepth 100000
namespace Go.Proofs.Ytheehhfmdmflmaa
open Go.Sym
theorem i_extreme (X : Int → Int) (Y : Int → Int) (n : Int) (dX : Int) (dY : Int) : RunsTo Try.prog 87 [(.sl 0 2 (.lit 0) (.v fun _ => n) 1048576), (.agg [(.int .i64 (.v fun _ => dX) (-1000) 1000), (.int .i64 (.v fun _ => dY) (-1000) 1000)])] [some ⟨24, 2, true, (.sym (.v fun _ => n) fun e => [(.int .i64 (.v fun _ => (X (e.den))) (-1000) 1000), (.int .i64 (.v fun _ => (Y (e.den))) (-1000) 1000)])⟩] (.int .i64 (.v fun _ => farI (fun i => (X (i)) * dX + (Y (i)) * dY) n.toNat) 0 1048576) [some ⟨24, 2, true, (.sym (.v fun _ => n) fun e => [(.int .i64 (.v fun _ => (X (e.den))) (-1000) 1000), (.int .i64 (.v fun _ => (Y (e.den))) (-1000) 1000)])⟩] := by
  refine RunsTo.go env Try.func87 rfl Try.call87 rfl rfl (fun _ _ => (.loop [] [0, 1] (Int) (fun x1 => ⟨spl 28 0 [(0, (.sl 0 2 (.lit 0) (.v fun _ => n) 1048576)), (3, (.ptr 1 2 (.lit 0) 0)), (4, (.int .i64 (.lit 0) 0 0)), (5, (.int .i64 (.v fun _ => farI (fun i => (X (i)) * dX + (Y (i)) * dY) x1.toNat) 0 1048576)), (8, (.sl 0 2 (.lit 0) (.v fun _ => n) 1048576)), (9, (.int .i64 (.v fun _ => n) 0 1048576)), (10, (.int .i64 (.v fun _ => x1) 0 1048576))], [some ⟨24, 2, true, (.sym (.v fun _ => n) fun e => [(.int .i64 (.v fun _ => (X (e.den))) (-1000) 1000), (.int .i64 (.v fun _ => (Y (e.den))) (-1000) 1000)])⟩, some ⟨24, 2, true, (.lit [[(.int .i64 (.v fun _ => dX) (-1000) 1000), (.int .i64 (.v fun _ => dY) (-1000) 1000)]])⟩], 1⟩) (fun x1 => 0 ≤ x1 ∧ x1 ≤ n) (fun x1 => (n - x1).toNat) fun x1 => (.ite (.need (.need (.call (c_i_dot ((X (x1))) ((Y (x1))) dX dY) (.need (.need (.call (c_i_dot ((X (farI (fun i => (X (i)) * dX + (Y (i)) * dY) x1.toNat))) ((Y (farI (fun i => (X (i)) * dX + (Y (i)) * dY) x1.toNat))) dX dY) (.ite (.next [0, 1]) (.next [0, 1])))))))) (.out .ret)))) (G := ((0 ≤ n ∧ n ≤ 1048576) ∧ (((-1000) ≤ dX ∧ dX ≤ 1000) ∧ ((-1000) ≤ dY ∧ dY ≤ 1000))) → (∀ e9 : E, ((0 ≤ e9.den ∧ e9.den < n) → (((-1000) ≤ ((X (e9.den))) ∧ ((X (e9.den))) ≤ 1000) ∧ ((-1000) ≤ ((Y (e9.den))) ∧ ((Y (e9.den))) ≤ 1000)))) → ((∃ y2 : Int, ((0 ≤ y2 ∧ y2 ≤ n) ∧ (((n = n) ∧ (((0 : Int) = (farI (fun i => (X (i)) * dX + (Y (i)) * dY) y2.toNat)) ∧ ((n = n) ∧ ((n = n) ∧ ((0 : Int) = y2))))) ∧ (((n ≤ n) ∧ (∀ e3 : E, ((0 ≤ e3.den ∧ e3.den < n) → ((((X (e3.den))) = ((X (e3.den)))) ∧ (((Y (e3.den))) = ((Y (e3.den)))))))) ∧ ((dX = dX) ∧ (dY = dY)))))) ∧ (∀ x1 : Int, ((0 ≤ x1 ∧ x1 ≤ n) → (((x1 < n) → ((((0 ≤ x1) ∧ (x1 < n))) ∧ ((x1 < n) ∧ ((((((X (x1))) = ((X (x1)))) ∧ (((Y (x1))) = ((Y (x1))))) ∧ ((dX = dX) ∧ (dY = dY))) ∧ ((((0 ≤ (farI (fun i => (X (i)) * dX + (Y (i)) * dY) x1.toNat)) ∧ ((farI (fun i => (X (i)) * dX + (Y (i)) * dY) x1.toNat) < n))) ∧ (((farI (fun i => (X (i)) * dX + (Y (i)) * dY) x1.toNat) < n) ∧ ((((((X (farI (fun i => (X (i)) * dX + (Y (i)) * dY) x1.toNat))) = (((X (farI (fun i => (X (i)) * dX + (Y (i)) * dY) x1.toNat))))) ∧ (((Y (farI (fun i => (X (i)) * dX + (Y (i)) * dY) x1.toNat))) = (((Y (farI (fun i => (X (i)) * dX + (Y (i)) * dY) x1.toNat)))))) ∧ ((dX = dX) ∧ (dY = dY))) ∧ ((((((X (farI (fun i => (X (i)) * dX + (Y (i)) * dY) x1.toNat))) * dX + ((Y (farI (fun i => (X (i)) * dX + (Y (i)) * dY) x1.toNat))) * dY) < (((X (x1))) * dX + ((Y (x1))) * dY)) → (∃ y4 : Int, ((0 ≤ y4 ∧ y4 ≤ n) ∧ ((((n = n) ∧ ((x1 = (farI (fun i => (X (i)) * dX + (Y (i)) * dY) y4.toNat)) ∧ ((n = n) ∧ ((n = n) ∧ (((x1 + 1) = y4) ∧ ((1 ≤ (x1 + 1) ∧ (x1 + 1) ≤ 1048577) → (0 ≤ y4 ∧ y4 ≤ 1048576))))))) ∧ (((n ≤ n) ∧ (∀ e5 : E, ((0 ≤ e5.den ∧ e5.den < n) → ((((X (e5.den))) = ((X (e5.den)))) ∧ (((Y (e5.den))) = ((Y (e5.den)))))))) ∧ ((dX = dX) ∧ (dY = dY)))) ∧ ((n - y4).toNat < (n - x1).toNat))))) ∧ (((((X (x1))) * dX + ((Y (x1))) * dY) ≤ (((X (farI (fun i => (X (i)) * dX + (Y (i)) * dY) x1.toNat))) * dX + ((Y (farI (fun i => (X (i)) * dX + (Y (i)) * dY) x1.toNat))) * dY)) → (∃ y6 : Int, ((0 ≤ y6 ∧ y6 ≤ n) ∧ ((((n = n) ∧ (((farI (fun i => (X (i)) * dX + (Y (i)) * dY) x1.toNat) = (farI (fun i => (X (i)) * dX + (Y (i)) * dY) y6.toNat)) ∧ ((n = n) ∧ ((n = n) ∧ (((x1 + 1) = y6) ∧ ((1 ≤ (x1 + 1) ∧ (x1 + 1) ≤ 1048577) → (0 ≤ y6 ∧ y6 ≤ 1048576))))))) ∧ (((n ≤ n) ∧ (∀ e7 : E, ((0 ≤ e7.den ∧ e7.den < n) → ((((X (e7.den))) = ((X (e7.den)))) ∧ (((Y (e7.den))) = ((Y (e7.den)))))))) ∧ ((dX = dX) ∧ (dY = dY)))) ∧ ((n - y6).toNat < (n - x1).toNat))))))))))))) ∧ ((n ≤ x1) → (((farI (fun i => (X (i)) * dX + (Y (i)) * dY) x1.toNat) = (farI (fun i => (X (i)) * dX + (Y (i)) * dY) n.toNat)) ∧ ((n ≤ n) ∧ (∀ e8 : E, ((0 ≤ e8.den ∧ e8.den < n) → ((((X (e8.den))) = ((X (e8.den)))) ∧ (((Y (e8.den))) = ((Y (e8.den))))))))))))))) (by kernel_rfl) ?_
  intro h1 h2
  refine ⟨?_, ?_⟩
  · refine ⟨0, ?_⟩
    try dsimp only
    refine ⟨?_, ?_, ⟨Int.le_refl _, fun _ => fun _ => ⟨rfl, rfl⟩⟩, rfl, rfl⟩
      -- 1: 0 ≤ y2 ∧ y2 ≤ n
    · first | rfl | omega | (have nb := farI_bd (fun i => (X (i)) * dX + (Y (i)) * dY) j.toNat; omega) | (rw [farI_succ _ _ I1.1, if_pos (by assumption)]) | (rw [farI_succ _ _ I1.1, if_neg (by omega)]) | (have e : j = n := (by omega); rw [e])
    · refine ⟨rfl, ?_, rfl, rfl, ?_⟩
        -- 2: (0 : Int) = (farI (fun i => (X (i)) * dX + (Y (i)) * dY) y2.toNat)
      · first | rfl | omega | (have nb := farI_bd (fun i => (X (i)) * dX + (Y (i)) * dY) j.toNat; omega) | (rw [farI_succ _ _ I1.1, if_pos (by assumption)]) | (rw [farI_succ _ _ I1.1, if_neg (by omega)]) | (have e : j = n := (by omega); rw [e])
        -- 3: (0 : Int) = y2
      · first | rfl | omega | (have nb := farI_bd (fun i => (X (i)) * dX + (Y (i)) * dY) j.toNat; omega) | (rw [farI_succ _ _ I1.1, if_pos (by assumption)]) | (rw [farI_succ _ _ I1.1, if_neg (by omega)]) | (have e : j = n := (by omega); rw [e])
  · intro j
    intro I1
    refine ⟨?_, ?_⟩
    · intro c10
      refine ⟨?_, ?_, ⟨⟨rfl, rfl⟩, ⟨rfl, rfl⟩⟩, ?_, ?_, ⟨⟨rfl, rfl⟩, ⟨rfl, rfl⟩⟩, ?_, ?_⟩
        -- 4: ((0 ≤ x1) ∧ (x1 < n))
      · first | rfl | omega | (have nb := farI_bd (fun i => (X (i)) * dX + (Y (i)) * dY) j.toNat; omega) | (rw [farI_succ _ _ I1.1, if_pos (by assumption)]) | (rw [farI_succ _ _ I1.1, if_neg (by omega)]) | (have e : j = n := (by omega); rw [e])
        -- 5: x1 < n
      · first | rfl | omega | (have nb := farI_bd (fun i => (X (i)) * dX + (Y (i)) * dY) j.toNat; omega) | (rw [farI_succ _ _ I1.1, if_pos (by assumption)]) | (rw [farI_succ _ _ I1.1, if_neg (by omega)]) | (have e : j = n := (by omega); rw [e])
        -- 6: ((0 ≤ (farI (fun i => (X (i)) * dX + (Y (i)) * dY) x1.toNat)) ∧ ((farI (fun i => (X (i)) * dX + (Y (
      · first | rfl | omega | (have nb := farI_bd (fun i => (X (i)) * dX + (Y (i)) * dY) j.toNat; omega) | (rw [farI_succ _ _ I1.1, if_pos (by assumption)]) | (rw [farI_succ _ _ I1.1, if_neg (by omega)]) | (have e : j = n := (by omega); rw [e])
        -- 7: (farI (fun i => (X (i)) * dX + (Y (i)) * dY) x1.toNat) < n
      · first | rfl | omega | (have nb := farI_bd (fun i => (X (i)) * dX + (Y (i)) * dY) j.toNat; omega) | (rw [farI_succ _ _ I1.1, if_pos (by assumption)]) | (rw [farI_succ _ _ I1.1, if_neg (by omega)]) | (have e : j = n := (by omega); rw [e])
      · intro c11
        refine ⟨j + 1, ?_⟩
        try dsimp only
        refine ⟨?_, ?_, ?_⟩
          -- 8: 0 ≤ y4 ∧ y4 ≤ n
        · first | rfl | omega | (have nb := farI_bd (fun i => (X (i)) * dX + (Y (i)) * dY) j.toNat; omega) | (rw [farI_succ _ _ I1.1, if_pos (by assumption)]) | (rw [farI_succ _ _ I1.1, if_neg (by omega)]) | (have e : j = n := (by omega); rw [e])
        · refine ⟨?_, ⟨Int.le_refl _, fun _ => fun _ => ⟨rfl, rfl⟩⟩, rfl, rfl⟩
          refine ⟨rfl, ?_, rfl, rfl, ?_, ?_⟩
            -- 9: x1 = (farI (fun i => (X (i)) * dX + (Y (i)) * dY) y4.toNat)
          · first | rfl | omega | (have nb := farI_bd (fun i => (X (i)) * dX + (Y (i)) * dY) j.toNat; omega) | (rw [farI_succ _ _ I1.1, if_pos (by assumption)]) | (rw [farI_succ _ _ I1.1, if_neg (by omega)]) | (have e : j = n := (by omega); rw [e])
            -- 10: (x1 + 1) = y4
          · first | rfl | omega | (have nb := farI_bd (fun i => (X (i)) * dX + (Y (i)) * dY) j.toNat; omega) | (rw [farI_succ _ _ I1.1, if_pos (by assumption)]) | (rw [farI_succ _ _ I1.1, if_neg (by omega)]) | (have e : j = n := (by omega); rw [e])
          · intro c12
            -- 11: 0 ≤ y4 ∧ y4 ≤ 1048576
            first | rfl | omega | (have nb := farI_bd (fun i => (X (i)) * dX + (Y (i)) * dY) j.toNat; omega) | (rw [farI_succ _ _ I1.1, if_pos (by assumption)]) | (rw [farI_succ _ _ I1.1, if_neg (by omega)]) | (have e : j = n := (by omega); rw [e])
          -- 12: (n - y4).toNat < (n - x1).toNat
        · first | rfl | omega | (have nb := farI_bd (fun i => (X (i)) * dX + (Y (i)) * dY) j.toNat; omega) | (rw [farI_succ _ _ I1.1, if_pos (by assumption)]) | (rw [farI_succ _ _ I1.1, if_neg (by omega)]) | (have e : j = n := (by omega); rw [e])
      · intro c13
        refine ⟨j + 1, ?_⟩
        try dsimp only
        refine ⟨?_, ?_, ?_⟩
          -- 13: 0 ≤ y6 ∧ y6 ≤ n
        · first | rfl | omega | (have nb := farI_bd (fun i => (X (i)) * dX + (Y (i)) * dY) j.toNat; omega) | (rw [farI_succ _ _ I1.1, if_pos (by assumption)]) | (rw [farI_succ _ _ I1.1, if_neg (by omega)]) | (have e : j = n := (by omega); rw [e])
        · refine ⟨?_, ⟨Int.le_refl _, fun _ => fun _ => ⟨rfl, rfl⟩⟩, rfl, rfl⟩
          refine ⟨rfl, ?_, rfl, rfl, ?_, ?_⟩
            -- 14: (farI (fun i => (X (i)) * dX + (Y (i)) * dY) x1.toNat) = (farI (fun i => (X (i)) * dX + (Y (i)) * dY
          · first | rfl | omega | (have nb := farI_bd (fun i => (X (i)) * dX + (Y (i)) * dY) j.toNat; omega) | (rw [farI_succ _ _ I1.1, if_pos (by assumption)]) | (rw [farI_succ _ _ I1.1, if_neg (by omega)]) | (have e : j = n := (by omega); rw [e])
            -- 15: (x1 + 1) = y6
          · first | rfl | omega | (have nb := farI_bd (fun i => (X (i)) * dX + (Y (i)) * dY) j.toNat; omega) | (rw [farI_succ _ _ I1.1, if_pos (by assumption)]) | (rw [farI_succ _ _ I1.1, if_neg (by omega)]) | (have e : j = n := (by omega); rw [e])
          · intro c14
            -- 16: 0 ≤ y6 ∧ y6 ≤ 1048576
            first | rfl | omega | (have nb := farI_bd (fun i => (X (i)) * dX + (Y (i)) * dY) j.toNat; omega) | (rw [farI_succ _ _ I1.1, if_pos (by assumption)]) | (rw [farI_succ _ _ I1.1, if_neg (by omega)]) | (have e : j = n := (by omega); rw [e])
          -- 17: (n - y6).toNat < (n - x1).toNat
        · first | rfl | omega | (have nb := farI_bd (fun i => (X (i)) * dX + (Y (i)) * dY) j.toNat; omega) | (rw [farI_succ _ _ I1.1, if_pos (by assumption)]) | (rw [farI_succ _ _ I1.1, if_neg (by omega)]) | (have e : j = n := (by omega); rw [e])
    · intro c15
      refine ⟨?_, Int.le_refl _, fun _ => fun _ => ⟨rfl, rfl⟩⟩
      -- 18: (farI (fun i => (X (i)) * dX + (Y (i)) * dY) x1.toNat) = (farI (fun i => (X (i)) * dX + (Y (i)) * dY
      first | rfl | omega | (have nb := farI_bd (fun i => (X (i)) * dX + (Y (i)) * dY) j.toNat; omega) | (rw [farI_succ _ _ I1.1, if_pos (by assumption)]) | (rw [farI_succ _ _ I1.1, if_neg (by omega)]) | (have e : j = n := (by omega); rw [e])
def c_i_extreme (X : Int → Int) (Y : Int → Int) (n : Int) (dX : Int) (dY : Int) : Cn Try.prog := ⟨_, _, _, _, _, i_extreme X Y n dX dY⟩
theorem i_Extreme (X : Int → Int) (Y : Int → Int) (n : Int) (dX : Int) (dY : Int) : RunsTo Try.prog 29 [(.sl 0 2 (.lit 0) (.v fun _ => n) 1048576), (.agg [(.int .i64 (.v fun _ => dX) (-9223372036854775808) 9223372036854775807), (.int .i64 (.v fun _ => dY) (-9223372036854775808) 9223372036854775807)])] [some ⟨24, 2, true, (.sym (.v fun _ => n) fun e => [(.int .i64 (.v fun _ => (X (e.den))) (-9223372036854775808) 9223372036854775807), (.int .i64 (.v fun _ => (Y (e.den))) (-9223372036854775808) 9223372036854775807)])⟩] (.int .i64 (.v fun _ => exI X Y n dX dY) (-1) 1048576) [some ⟨24, 2, true, (.sym (.v fun _ => n) fun e => [(.int .i64 (.v fun _ => (X (e.den))) (-9223372036854775808) 9223372036854775807), (.int .i64 (.v fun _ => (Y (e.den))) (-9223372036854775808) 9223372036854775807)])⟩] := by
  refine RunsTo.go env Try.func29 rfl Try.call29 rfl rfl (fun _ _ => (.call (c_i_listOk X Y n) (.ite .ret (.ite .ret (.call (c_i_valid dX dY) (.ite .ret (.call (c_i_extreme X Y n dX dY) .ret))))))) (G := ((0 ≤ n ∧ n ≤ 1048576) ∧ (((-9223372036854775808) ≤ dX ∧ dX ≤ 9223372036854775807) ∧ ((-9223372036854775808) ≤ dY ∧ dY ≤ 9223372036854775807))) → (∀ e7 : E, ((0 ≤ e7.den ∧ e7.den < n) → (((-9223372036854775808) ≤ ((X (e7.den))) ∧ ((X (e7.den))) ≤ 9223372036854775807) ∧ ((-9223372036854775808) ≤ ((Y (e7.den))) ∧ ((Y (e7.den))) ≤ 9223372036854775807)))) → ((n = n) ∧ (((n ≤ n) ∧ (∀ e1 : E, ((0 ≤ e1.den ∧ e1.den < n) → ((((X (e1.den))) = ((X (e1.den)))) ∧ (((Y (e1.den))) = ((Y (e1.den)))))))) ∧ ((((listB X Y n) = false) → ((((-1) : Int) = (exI X Y n dX dY)) ∧ ((n ≤ n) ∧ (∀ e2 : E, ((0 ≤ e2.den ∧ e2.den < n) → ((((X (e2.den))) = ((X (e2.den)))) ∧ (((Y (e2.den))) = ((Y (e2.den)))))))))) ∧ (((listB X Y n) = true) → (((n = 0) → ((((-1) : Int) = (exI X Y n dX dY)) ∧ ((n ≤ n) ∧ (∀ e3 : E, ((0 ≤ e3.den ∧ e3.den < n) → ((((X (e3.den))) = ((X (e3.den)))) ∧ (((Y (e3.den))) = ((Y (e3.den)))))))))) ∧ ((n ≠ 0) → (((dX = dX) ∧ (dY = dY)) ∧ ((((okP dX dY) = false) → ((((-1) : Int) = (exI X Y n dX dY)) ∧ ((n ≤ n) ∧ (∀ e4 : E, ((0 ≤ e4.den ∧ e4.den < n) → ((((X (e4.den))) = ((X (e4.den)))) ∧ (((Y (e4.den))) = ((Y (e4.den)))))))))) ∧ (((okP dX dY) = true) → (((n = n) ∧ (((dX = dX) ∧ (((-9223372036854775808) ≤ dX ∧ dX ≤ 9223372036854775807) → ((-1000) ≤ dX ∧ dX ≤ 1000))) ∧ ((dY = dY) ∧ (((-9223372036854775808) ≤ dY ∧ dY ≤ 9223372036854775807) → ((-1000) ≤ dY ∧ dY ≤ 1000))))) ∧ (((n ≤ n) ∧ (∀ e5 : E, ((0 ≤ e5.den ∧ e5.den < n) → (((((X (e5.den))) = ((X (e5.den)))) ∧ (((-9223372036854775808) ≤ ((X (e5.den))) ∧ ((X (e5.den))) ≤ 9223372036854775807) → ((-1000) ≤ ((X (e5.den))) ∧ ((X (e5.den))) ≤ 1000))) ∧ ((((Y (e5.den))) = ((Y (e5.den)))) ∧ (((-9223372036854775808) ≤ ((Y (e5.den))) ∧ ((Y (e5.den))) ≤ 9223372036854775807) → ((-1000) ≤ ((Y (e5.den))) ∧ ((Y (e5.den))) ≤ 1000))))))) ∧ (((farI (fun i => ((X (i))) * dX + ((Y (i))) * dY) n.toNat) = (exI X Y n dX dY)) ∧ ((n ≤ n) ∧ (∀ e6 : E, ((0 ≤ e6.den ∧ e6.den < n) → ((((X (e6.den))) = ((X (e6.den)))) ∧ (((Y (e6.den))) = ((Y (e6.den))))))))))))))))))))) (by kernel_rfl) ?_
  intro h1 h2
  refine ⟨rfl, ⟨Int.le_refl _, fun _ => fun _ => ⟨rfl, rfl⟩⟩, ?_, ?_⟩
  · intro c8
    refine ⟨?_, Int.le_refl _, fun _ => fun _ => ⟨rfl, rfl⟩⟩
    -- 1: ((-1) : Int) = (exI X Y n dX dY)
    first | rfl | omega | (have hq := okP_iff.1 (show okP dX dY = true by assumption); omega) | (have hj := listB_bd (show listB X Y n = true by assumption) (i := e5.den) (by omega) (by omega); omega) | (simp [exI, *]; done) | (simp_all [exI]; done)
  · intro c9
    refine ⟨?_, ?_⟩
    · intro c10
      refine ⟨?_, Int.le_refl _, fun _ => fun _ => ⟨rfl, rfl⟩⟩
      -- 2: ((-1) : Int) = (exI X Y n dX dY)
      first | rfl | omega | (have hq := okP_iff.1 (show okP dX dY = true by assumption); omega) | (have hj := listB_bd (show listB X Y n = true by assumption) (i := e5.den) (by omega) (by omega); omega) | (simp [exI, *]; done) | (simp_all [exI]; done)
    · intro c11
      refine ⟨⟨rfl, rfl⟩, ?_, ?_⟩
      · intro c12
        refine ⟨?_, Int.le_refl _, fun _ => fun _ => ⟨rfl, rfl⟩⟩
        -- 3: ((-1) : Int) = (exI X Y n dX dY)
        first | rfl | omega | (have hq := okP_iff.1 (show okP dX dY = true by assumption); omega) | (have hj := listB_bd (show listB X Y n = true by assumption) (i := e5.den) (by omega) (by omega); omega) | (simp [exI, *]; done) | (simp_all [exI]; done)
      · intro c13
        refine ⟨?_, ?_, ?_, Int.le_refl _, fun _ => fun _ => ⟨rfl, rfl⟩⟩
        · refine ⟨rfl, ?_, rfl, ?_⟩
          · refine ⟨rfl, ?_⟩
            intro c14
            -- 4: (-1000) ≤ dX ∧ dX ≤ 1000
            first | rfl | omega | (have hq := okP_iff.1 (show okP dX dY = true by assumption); omega) | (have hj := listB_bd (show listB X Y n = true by assumption) (i := e5.den) (by omega) (by omega); omega) | (simp [exI, *]; done) | (simp_all [exI]; done)
          · intro c15
            -- 5: (-1000) ≤ dY ∧ dY ≤ 1000
            first | rfl | omega | (have hq := okP_iff.1 (show okP dX dY = true by assumption); omega) | (have hj := listB_bd (show listB X Y n = true by assumption) (i := e5.den) (by omega) (by omega); omega) | (simp [exI, *]; done) | (simp_all [exI]; done)
        · refine ⟨Int.le_refl _, ?_⟩
          intro e5
          intro c16
          refine ⟨?_, rfl, ?_⟩
          · refine ⟨rfl, ?_⟩
            intro c17
            -- 6: (-1000) ≤ ((X (e5.den))) ∧ ((X (e5.den))) ≤ 1000
            first | rfl | omega | (have hq := okP_iff.1 (show okP dX dY = true by assumption); omega) | (have hj := listB_bd (show listB X Y n = true by assumption) (i := e5.den) (by omega) (by omega); omega) | (simp [exI, *]; done) | (simp_all [exI]; done)
          · intro c18
            -- 7: (-1000) ≤ ((Y (e5.den))) ∧ ((Y (e5.den))) ≤ 1000
            first | rfl | omega | (have hq := okP_iff.1 (show okP dX dY = true by assumption); omega) | (have hj := listB_bd (show listB X Y n = true by assumption) (i := e5.den) (by omega) (by omega); omega) | (simp [exI, *]; done) | (simp_all [exI]; done)
          -- 8: (farI (fun i => ((X (i))) * dX + ((Y (i))) * dY) n.toNat) = (exI X Y n dX dY)
        · first | rfl | omega | (have hq := okP_iff.1 (show okP dX dY = true by assumption); omega) | (have hj := listB_bd (show listB X Y n = true by assumption) (i := e5.den) (by omega) (by omega); omega) | (simp [exI, *]; done) | (simp_all [exI]; done)
def c_i_Extreme (X : Int → Int) (Y : Int → Int) (n : Int) (dX : Int) (dY : Int) : Cn Try.prog := ⟨_, _, _, _, _, i_Extreme X Y n dX dY⟩
theorem s_DrawMaxima (C : Int → Int) (n : Int) : RunsTo Try.prog 24 [(.sl 0 1 (.lit 0) (.v fun _ => n) 9223372036854775807)] [some ⟨5, 1, false, (.sym (.v fun _ => n) fun e => [(.int .u8 (.v fun _ => (C (e.den))) 0 255)])⟩] (.sl 1 2 (.lit 0) (.v fun _ => lsN C n) 64) [some ⟨5, 1, false, (.sym (.v fun _ => cut n) fun e => [(.int .u8 (.v fun _ => (C (e.den))) 0 255)])⟩, some ⟨24, 2, true, (.sym (.v fun _ => lsN C n) fun e => [(.int .i64 (.v fun _ => lsX C n e.den) (-200) 1001), (.int .i64 (.v fun _ => lsY C n e.den) (-111) 481)])⟩] := by
  refine RunsTo.go env Try.func24 rfl Try.call24 rfl rfl (fun _ _ => (.call (c_s_newReader C n) (.call (c_anyPoints C (cut n) 0 8) .ret))) (G := (0 ≤ n ∧ n ≤ 9223372036854775807) → (∀ e5 : E, ((0 ≤ e5.den ∧ e5.den < n) → (0 ≤ ((C (e5.den))) ∧ ((C (e5.den))) ≤ 255))) → ((n = n) ∧ (((n ≤ n) ∧ (∀ e1 : E, ((0 ≤ e1.den ∧ e1.den < n) → (((C (e1.den))) = ((C (e1.den))))))) ∧ (((8 : Int) = 8) ∧ (((((cut n) = (cut n)) ∧ ((0 : Int) = 0)) ∧ (((cut n) ≤ (cut n)) ∧ (∀ e2 : E, ((0 ≤ e2.den ∧ e2.den < (cut n)) → (((C (e2.den))) = ((C (e2.den)))))))) ∧ (((anN C (cut n) 0 8) = (lsN C n)) ∧ ((((cut n) ≤ (cut n)) ∧ (∀ e4 : E, ((0 ≤ e4.den ∧ e4.den < (cut n)) → (((C (e4.den))) = ((C (e4.den))))))) ∧ (((lsN C n) ≤ (anN C (cut n) 0 8)) ∧ (∀ e3 : E, ((0 ≤ e3.den ∧ e3.den < (lsN C n)) → (((anX C (cut n) 0 8 (e3.den)) = (lsX C n e3.den)) ∧ ((anY C (cut n) 0 8 (e3.den)) = (lsY C n e3.den))))))))))))) (by kernel_rfl) ?_
  intro h1 h2
  refine ⟨rfl, ⟨Int.le_refl _, fun _ => fun _ => rfl⟩, rfl, ⟨⟨rfl, rfl⟩, ⟨Int.le_refl _, fun _ => fun _ => rfl⟩⟩, ?_, ⟨Int.le_refl _, fun _ => fun _ => rfl⟩, ?_, ?_⟩
    -- 1: (anN C (cut n) 0 8) = (lsN C n)
  · first | rfl | omega | exact Int.le_refl _
    -- 2: (lsN C n) ≤ (anN C (cut n) 0 8)
  · first | rfl | omega | exact Int.le_refl _
  · intro e3
    intro c6
    refine ⟨?_, ?_⟩
      -- 3: (anX C (cut n) 0 8 (e3.den)) = (lsX C n e3.den)
    · first | rfl | omega | exact Int.le_refl _
      -- 4: (anY C (cut n) 0 8 (e3.den)) = (lsY C n e3.den)
    · first | rfl | omega | exact Int.le_refl _
def c_s_DrawMaxima (C : Int → Int) (n : Int) : Cn Try.prog := ⟨_, _, _, _, _, s_DrawMaxima C n⟩
theorem mx_law {X Y : Int → Int} {n : Int} (hn : 0 ≤ n) (h : len' (mxl X Y n) ≠ 0) : isInB (selL (mxl X Y n)) (len' (mxl X Y n)) (exI X Y n 1 1) = true := by
  rw [isInB_iff]
  have hl : listB X Y n = true := by
    by_cases hc : listB X Y n = true
    · exact hc
    · exact absurd (by simp [mxl, hc, len']) h
  have h0 : n ≠ 0 := by
    rintro rfl
    exact h (by simp [mxl, hl, fl_zero, len'])
  have e : exI X Y n 1 1 = farI (fun i => X i * 1 + Y i * 1) n.toNat := by
    unfold exI
    rw [hl, decide_eq_false h0, show okP 1 1 = true by decide]
    rfl
  have hb := farI_bd (fun i => X i * 1 + Y i * 1) n.toNat
  have hx : ∀ i, 0 ≤ i → i < n → X i * 1 + Y i * 1 ≤ X (exI X Y n 1 1) * 1 + Y (exI X Y n 1 1) * 1 := by
    intro i a b
    rw [e]
    exact farI_max (fun i => X i * 1 + Y i * 1) n.toNat i a (by omega)
  rw [← e] at hb
  generalize exI X Y n 1 1 = b at *
  unfold mxl
  rw [if_pos hl, mem_fl]
  refine ⟨by omega, ?_⟩
  show allB _ n = true
  refine allB_iff.2 fun i h1 h2 => ?_
  rw [Bool.not_eq_true', ← Bool.not_eq_true, abv_iff]
  have := hx i h1 h2
  omega
theorem l_FnMaximaExtreme (C : Int → Int) (n : Int) : RunsTo Try.prog 5 [(.sl 0 1 (.lit 0) (.v fun _ => n) 9223372036854775807)] [some ⟨5, 1, false, (.sym (.v fun _ => n) fun e => [(.int .u8 (.v fun _ => (C (e.den))) 0 255)])⟩] (.bool (.lit true)) [none] := by
  refine RunsTo.go env Try.func5 rfl Try.call5 rfl rfl (fun _ _ => (.ite .ret (.callF (c_s_DrawMaxima C n) (.callF (c_i_Maxima (lsX C n) (lsY C n) (lsN C n)) (.callF (c_s_Maxima (lsX C n) (lsY C n) (lsN C n)) (.call (c_l_equalInts (selL (mxl (lsX C n) (lsY C n) (lsN C n))) (len' (mxl (lsX C n) (lsY C n) (lsN C n))) (selL (mxl (lsX C n) (lsY C n) (lsN C n))) (len' (mxl (lsX C n) (lsY C n) (lsN C n)))) (.ite (.callF (c_s_Maxima (lsX C n) (lsY C n) (lsN C n)) (.call (c_l_equalInts (selL (mxl (lsX C n) (lsY C n) (lsN C n))) (len' (mxl (lsX C n) (lsY C n) (lsN C n))) (selL (mxl (lsX C n) (lsY C n) (lsN C n))) (len' (mxl (lsX C n) (lsY C n) (lsN C n)))) .ret)) (.ite (.callF (c_s_Maxima (lsX C n) (lsY C n) (lsN C n)) (.call (c_l_equalInts (selL (mxl (lsX C n) (lsY C n) (lsN C n))) (len' (mxl (lsX C n) (lsY C n) (lsN C n))) (selL (mxl (lsX C n) (lsY C n) (lsN C n))) (len' (mxl (lsX C n) (lsY C n) (lsN C n)))) .ret)) (.callF (c_i_Extreme (lsX C n) (lsY C n) (lsN C n) 1 1) (.call (c_l_isIn (selL (mxl (lsX C n) (lsY C n) (lsN C n))) (len' (mxl (lsX C n) (lsY C n) (lsN C n))) (exI (lsX C n) (lsY C n) (lsN C n) 1 1)) .ret)))))))))) (G := (0 ≤ n ∧ n ≤ 9223372036854775807) → (∀ e14 : E, ((0 ≤ e14.den ∧ e14.den < n) → (0 ≤ ((C (e14.den))) ∧ ((C (e14.den))) ≤ 255))) → ((n ≤ 1048576) → ((n = n) ∧ (((n ≤ n) ∧ (∀ e1 : E, ((0 ≤ e1.den ∧ e1.den < n) → (((C (e1.den))) = ((C (e1.den))))))) ∧ ((0 ≤ (lsN C n) ∧ (lsN C n) ≤ 64) → (((lsN C n) = (lsN C n)) ∧ ((((lsN C n) ≤ (lsN C n)) ∧ (∀ e2 : E, ((0 ≤ e2.den ∧ e2.den < (lsN C n)) → (((lsX C n (e2.den)) = (lsX C n ((e2.den)))) ∧ ((lsY C n (e2.den)) = (lsY C n ((e2.den)))))))) ∧ ((0 ≤ (len' (mxl (lsX C n) (lsY C n) (lsN C n))) ∧ (len' (mxl (lsX C n) (lsY C n) (lsN C n))) ≤ 1048576) → (((lsN C n) = (lsN C n)) ∧ ((((lsN C n) ≤ (lsN C n)) ∧ (∀ e3 : E, ((0 ≤ e3.den ∧ e3.den < (lsN C n)) → (((lsX C n ((e3.den))) = (((lsX C n (((e3.den))))))) ∧ ((lsY C n ((e3.den))) = (((lsY C n (((e3.den))))))))))) ∧ ((0 ≤ (len' (mxl (lsX C n) (lsY C n) (lsN C n))) ∧ (len' (mxl (lsX C n) (lsY C n) (lsN C n))) ≤ 1048576) → ((((len' (mxl (lsX C n) (lsY C n) (lsN C n))) = (len' (mxl (lsX C n) (lsY C n) (lsN C n)))) ∧ ((len' (mxl (lsX C n) (lsY C n) (lsN C n))) = (len' (mxl (lsX C n) (lsY C n) (lsN C n))))) ∧ (((((len' (mxl (lsX C n) (lsY C n) (lsN C n))) ≤ (len' (mxl (lsX C n) (lsY C n) (lsN C n)))) ∧ (∀ e5 : E, ((0 ≤ e5.den ∧ e5.den < (len' (mxl (lsX C n) (lsY C n) (lsN C n)))) → ((selL (mxl (lsX C n) (lsY C n) (lsN C n)) (e5.den)) = (selL (mxl (lsX C n) (lsY C n) (lsN C n)) ((e5.den))))))) ∧ (((len' (mxl (lsX C n) (lsY C n) (lsN C n))) ≤ (len' (mxl (lsX C n) (lsY C n) (lsN C n)))) ∧ (∀ e4 : E, ((0 ≤ e4.den ∧ e4.den < (len' (mxl (lsX C n) (lsY C n) (lsN C n)))) → ((selL (mxl (lsX C n) (lsY C n) (lsN C n)) (e4.den)) = (selL (mxl (lsX C n) (lsY C n) (lsN C n)) ((e4.den)))))))) ∧ ((((eqB (selL (mxl (lsX C n) (lsY C n) (lsN C n))) (len' (mxl (lsX C n) (lsY C n) (lsN C n))) (selL (mxl (lsX C n) (lsY C n) (lsN C n))) (len' (mxl (lsX C n) (lsY C n) (lsN C n)))) = false) → (((lsN C n) = (lsN C n)) ∧ ((((lsN C n) ≤ (lsN C n)) ∧ (∀ e6 : E, ((0 ≤ e6.den ∧ e6.den < (lsN C n)) → (((((lsX C n (((e6.den)))))) = ((((lsX C n ((((e6.den))))))))) ∧ ((((lsY C n (((e6.den)))))) = ((((lsY C n ((((e6.den))))))))))))) ∧ ((0 ≤ (len' (mxl (lsX C n) (lsY C n) (lsN C n))) ∧ (len' (mxl (lsX C n) (lsY C n) (lsN C n))) ≤ 1048576) → ((((len' (mxl (lsX C n) (lsY C n) (lsN C n))) = (len' (mxl (lsX C n) (lsY C n) (lsN C n)))) ∧ ((len' (mxl (lsX C n) (lsY C n) (lsN C n))) = (len' (mxl (lsX C n) (lsY C n) (lsN C n))))) ∧ (((((len' (mxl (lsX C n) (lsY C n) (lsN C n))) ≤ (len' (mxl (lsX C n) (lsY C n) (lsN C n)))) ∧ (∀ e8 : E, ((0 ≤ e8.den ∧ e8.den < (len' (mxl (lsX C n) (lsY C n) (lsN C n)))) → ((selL (mxl (lsX C n) (lsY C n) (lsN C n)) ((e8.den))) = (((selL (mxl (lsX C n) (lsY C n) (lsN C n)) (((e8.den)))))))))) ∧ (((len' (mxl (lsX C n) (lsY C n) (lsN C n))) ≤ (len' (mxl (lsX C n) (lsY C n) (lsN C n)))) ∧ (∀ e7 : E, ((0 ≤ e7.den ∧ e7.den < (len' (mxl (lsX C n) (lsY C n) (lsN C n)))) → ((selL (mxl (lsX C n) (lsY C n) (lsN C n)) (e7.den)) = (selL (mxl (lsX C n) (lsY C n) (lsN C n)) ((e7.den)))))))) ∧ ((eqB (selL (mxl (lsX C n) (lsY C n) (lsN C n))) (len' (mxl (lsX C n) (lsY C n) (lsN C n))) (selL (mxl (lsX C n) (lsY C n) (lsN C n))) (len' (mxl (lsX C n) (lsY C n) (lsN C n)))) = true))))))) ∧ (((eqB (selL (mxl (lsX C n) (lsY C n) (lsN C n))) (len' (mxl (lsX C n) (lsY C n) (lsN C n))) (selL (mxl (lsX C n) (lsY C n) (lsN C n))) (len' (mxl (lsX C n) (lsY C n) (lsN C n)))) = true) → ((((len' (mxl (lsX C n) (lsY C n) (lsN C n))) = 0) → (((lsN C n) = (lsN C n)) ∧ ((((lsN C n) ≤ (lsN C n)) ∧ (∀ e9 : E, ((0 ≤ e9.den ∧ e9.den < (lsN C n)) → (((((lsX C n (((e9.den)))))) = ((((lsX C n ((((e9.den))))))))) ∧ ((((lsY C n (((e9.den)))))) = ((((lsY C n ((((e9.den))))))))))))) ∧ ((0 ≤ (len' (mxl (lsX C n) (lsY C n) (lsN C n))) ∧ (len' (mxl (lsX C n) (lsY C n) (lsN C n))) ≤ 1048576) → ((((len' (mxl (lsX C n) (lsY C n) (lsN C n))) = (len' (mxl (lsX C n) (lsY C n) (lsN C n)))) ∧ ((len' (mxl (lsX C n) (lsY C n) (lsN C n))) = (len' (mxl (lsX C n) (lsY C n) (lsN C n))))) ∧ (((((len' (mxl (lsX C n) (lsY C n) (lsN C n))) ≤ (len' (mxl (lsX C n) (lsY C n) (lsN C n)))) ∧ (∀ e11 : E, ((0 ≤ e11.den ∧ e11.den < (len' (mxl (lsX C n) (lsY C n) (lsN C n)))) → ((selL (mxl (lsX C n) (lsY C n) (lsN C n)) ((e11.den))) = (((selL (mxl (lsX C n) (lsY C n) (lsN C n)) (((e11.den)))))))))) ∧ (((len' (mxl (lsX C n) (lsY C n) (lsN C n))) ≤ (len' (mxl (lsX C n) (lsY C n) (lsN C n)))) ∧ (∀ e10 : E, ((0 ≤ e10.den ∧ e10.den < (len' (mxl (lsX C n) (lsY C n) (lsN C n)))) → ((selL (mxl (lsX C n) (lsY C n) (lsN C n)) (e10.den)) = (selL (mxl (lsX C n) (lsY C n) (lsN C n)) ((e10.den)))))))) ∧ ((eqB (selL (mxl (lsX C n) (lsY C n) (lsN C n))) (len' (mxl (lsX C n) (lsY C n) (lsN C n))) (selL (mxl (lsX C n) (lsY C n) (lsN C n))) (len' (mxl (lsX C n) (lsY C n) (lsN C n)))) = true))))))) ∧ (((len' (mxl (lsX C n) (lsY C n) (lsN C n))) ≠ 0) → ((((lsN C n) = (lsN C n)) ∧ (((1 : Int) = 1) ∧ ((1 : Int) = 1))) ∧ ((((lsN C n) ≤ (lsN C n)) ∧ (∀ e12 : E, ((0 ≤ e12.den ∧ e12.den < (lsN C n)) → (((((lsX C n (((e12.den)))))) = ((((lsX C n ((((e12.den))))))))) ∧ ((((lsY C n (((e12.den)))))) = ((((lsY C n ((((e12.den))))))))))))) ∧ (((-1) ≤ (exI (lsX C n) (lsY C n) (lsN C n) 1 1) ∧ (exI (lsX C n) (lsY C n) (lsN C n) 1 1) ≤ 1048576) → ((((len' (mxl (lsX C n) (lsY C n) (lsN C n))) = (len' (mxl (lsX C n) (lsY C n) (lsN C n)))) ∧ ((exI (lsX C n) (lsY C n) (lsN C n) 1 1) = (exI (lsX C n) (lsY C n) (lsN C n) 1 1))) ∧ ((((len' (mxl (lsX C n) (lsY C n) (lsN C n))) ≤ (len' (mxl (lsX C n) (lsY C n) (lsN C n)))) ∧ (∀ e13 : E, ((0 ≤ e13.den ∧ e13.den < (len' (mxl (lsX C n) (lsY C n) (lsN C n)))) → ((selL (mxl (lsX C n) (lsY C n) (lsN C n)) ((e13.den))) = (((selL (mxl (lsX C n) (lsY C n) (lsN C n)) (((e13.den)))))))))) ∧ ((isInB (selL (mxl (lsX C n) (lsY C n) (lsN C n))) (len' (mxl (lsX C n) (lsY C n) (lsN C n))) (exI (lsX C n) (lsY C n) (lsN C n) 1 1)) = true))))))))))))))))))))))) (by kernel_rfl) ?_
  intro h1 h2
  intro c15
  refine ⟨rfl, ⟨Int.le_refl _, fun _ => fun _ => rfl⟩, ?_⟩
  intro c16
  refine ⟨rfl, ⟨Int.le_refl _, fun _ => fun _ => ⟨rfl, rfl⟩⟩, ?_⟩
  intro c17
  refine ⟨rfl, ⟨Int.le_refl _, fun _ => fun _ => ⟨rfl, rfl⟩⟩, ?_⟩
  intro c18
  refine ⟨⟨rfl, rfl⟩, ⟨⟨Int.le_refl _, fun _ => fun _ => rfl⟩, ⟨Int.le_refl _, fun _ => fun _ => rfl⟩⟩, ?_, ?_⟩
  · intro c19
    refine ⟨rfl, ⟨Int.le_refl _, fun _ => fun _ => ⟨rfl, rfl⟩⟩, ?_⟩
    intro c20
    refine ⟨⟨rfl, rfl⟩, ⟨⟨Int.le_refl _, fun _ => fun _ => rfl⟩, ⟨Int.le_refl _, fun _ => fun _ => rfl⟩⟩, ?_⟩
    -- 1: (eqB (selL (mxl (lsX C n) (lsY C n) (lsN C n))) (len' (mxl (lsX C n) (lsY C n) (lsN C n))) (selL (mx
    first | rfl | omega | exact eqB_refl _ _ | exact mx_law (by omega) (by assumption)
  · intro c21
    refine ⟨?_, ?_⟩
    · intro c22
      refine ⟨rfl, ⟨Int.le_refl _, fun _ => fun _ => ⟨rfl, rfl⟩⟩, ?_⟩
      intro c23
      refine ⟨⟨rfl, rfl⟩, ⟨⟨Int.le_refl _, fun _ => fun _ => rfl⟩, ⟨Int.le_refl _, fun _ => fun _ => rfl⟩⟩, ?_⟩
      -- 2: (eqB (selL (mxl (lsX C n) (lsY C n) (lsN C n))) (len' (mxl (lsX C n) (lsY C n) (lsN C n))) (selL (mx
      first | rfl | omega | exact eqB_refl _ _ | exact mx_law (by omega) (by assumption)
    · intro c24
      refine ⟨⟨rfl, ⟨rfl, rfl⟩⟩, ⟨Int.le_refl _, fun _ => fun _ => ⟨rfl, rfl⟩⟩, ?_⟩
      intro c25
      refine ⟨⟨rfl, rfl⟩, ⟨Int.le_refl _, fun _ => fun _ => rfl⟩, ?_⟩
      -- 3: (isInB (selL (mxl (lsX C n) (lsY C n) (lsN C n))) (len' (mxl (lsX C n) (lsY C n) (lsN C n))) (exI (l
      first | rfl | omega | exact eqB_refl _ _ | exact mx_law (by omega) (by assumption)
def c_l_FnMaximaExtreme (C : Int → Int) (n : Int) : Cn Try.prog := ⟨_, _, _, _, _, l_FnMaximaExtreme C n⟩
end Go.Proofs.Ytheehhfmdmflmaa
