/- FnExactSpanningTree: the walk. -/
import Derived.Test.YtcfkpdjbjfnnmaaK70
set_option linter.unusedSimpArgs false
set_option linter.unusedVariables false
set_option maxRecDepth 100000
namespace Go.Proofs.Ytcfkpdjbjfnnmaa
open Go.Sym
theorem l_eqPair (aX : Int) (aY : Int) (bX : Int) (bY : Int) : RunsTo Try.prog 66 [(.agg [(.int .i64 (.v fun _ => aX) (-9223372036854775808) 9223372036854775807), (.int .i64 (.v fun _ => aY) (-9223372036854775808) 9223372036854775807)]), (.agg [(.int .i64 (.v fun _ => bX) (-9223372036854775808) 9223372036854775807), (.int .i64 (.v fun _ => bY) (-9223372036854775808) 9223372036854775807)])] [] (.bool (.v fun _ => decide (aX = bX) && decide (aY = bY))) [] := by
  refine RunsTo.go env Try.func66 rfl Try.call66 rfl rfl (fun _ _ => (.ite .ret (.ite .ret .ret))) (G := ((((-9223372036854775808) ≤ aX ∧ aX ≤ 9223372036854775807) ∧ ((-9223372036854775808) ≤ aY ∧ aY ≤ 9223372036854775807)) ∧ (((-9223372036854775808) ≤ bX ∧ bX ≤ 9223372036854775807) ∧ ((-9223372036854775808) ≤ bY ∧ bY ≤ 9223372036854775807))) → (True) → (((aX ≠ bX) → ((decide (aX = bX) && decide (aY = bY)) = false)) ∧ ((aX = bX) → (((aY ≠ bY) → ((decide (aX = bX) && decide (aY = bY)) = false)) ∧ ((aY = bY) → ((decide (aX = bX) && decide (aY = bY)) = true)))))) (by kernel_rfl) ?_
  intro h1 h2
  refine ⟨?_, ?_⟩
  · intro c1
    simp_all; done
  · intro c2
    refine ⟨?_, ?_⟩
    · intro c3
      simp_all; done
    · intro c4
      simp_all; done
def c_l_eqPair (aX : Int) (aY : Int) (bX : Int) (bY : Int) : Cn Try.prog := ⟨_, _, _, _, _, l_eqPair aX aY bX bY⟩
theorem l_eqPairS (X : Int → Int) (Y : Int → Int) (n : Int) (V : Int → Int) (U : Int → Int) (m : Int) : RunsTo Try.prog 20 [(.sl 0 2 (.lit 0) (.v fun _ => n) 1048576), (.sl 1 2 (.lit 0) (.v fun _ => m) 1048576)] [some ⟨58, 2, true, (.sym (.v fun _ => n) fun e => [(.int .i64 (.v fun _ => (X (e.den))) (-9223372036854775808) 9223372036854775807), (.int .i64 (.v fun _ => (Y (e.den))) (-9223372036854775808) 9223372036854775807)])⟩, some ⟨58, 2, true, (.sym (.v fun _ => m) fun e => [(.int .i64 (.v fun _ => (V (e.den))) (-9223372036854775808) 9223372036854775807), (.int .i64 (.v fun _ => (U (e.den))) (-9223372036854775808) 9223372036854775807)])⟩] (.bool (.v fun _ => eqP X Y n V U m)) [some ⟨58, 2, true, (.sym (.v fun _ => n) fun e => [(.int .i64 (.v fun _ => (X (e.den))) (-9223372036854775808) 9223372036854775807), (.int .i64 (.v fun _ => (Y (e.den))) (-9223372036854775808) 9223372036854775807)])⟩, some ⟨58, 2, true, (.sym (.v fun _ => m) fun e => [(.int .i64 (.v fun _ => (V (e.den))) (-9223372036854775808) 9223372036854775807), (.int .i64 (.v fun _ => (U (e.den))) (-9223372036854775808) 9223372036854775807)])⟩] := by
  refine RunsTo.go env Try.func20 rfl Try.call20 rfl rfl (fun _ _ => (.ite .ret (.loop [] [0, 1] (Int) (fun x3 => ⟨spl 27 0 [(0, (.sl 0 2 (.lit 0) (.v fun _ => n) 1048576)), (1, (.sl 1 2 (.lit 0) (.v fun _ => m) 1048576)), (5, (.int .i64 (.v fun _ => x3) 0 1048576))], [some ⟨58, 2, true, (.sym (.v fun _ => n) fun e => [(.int .i64 (.v fun _ => (X (e.den))) (-9223372036854775808) 9223372036854775807), (.int .i64 (.v fun _ => (Y (e.den))) (-9223372036854775808) 9223372036854775807)])⟩, some ⟨58, 2, true, (.sym (.v fun _ => m) fun e => [(.int .i64 (.v fun _ => (V (e.den))) (-9223372036854775808) 9223372036854775807), (.int .i64 (.v fun _ => (U (e.den))) (-9223372036854775808) 9223372036854775807)])⟩], 2⟩) (fun x3 => (0 ≤ x3 ∧ x3 ≤ n) ∧ ∀ i, 0 ≤ i → i < x3 → (decide ((X (i)) = (V (i))) && decide ((Y (i)) = (U (i)))) = true) (fun x3 => (n - x3).toNat) fun x3 => (.ite (.need (.need (.need (.need (.call (c_l_eqPair ((X (x3))) ((Y (x3))) ((V (x3))) ((U (x3)))) (.ite (.out .ret) (.next [0, 1]))))))) (.out .ret))))) (G := ((0 ≤ n ∧ n ≤ 1048576) ∧ (0 ≤ m ∧ m ≤ 1048576)) → ((∀ e15 : E, ((0 ≤ e15.den ∧ e15.den < n) → (((-9223372036854775808) ≤ ((X (e15.den))) ∧ ((X (e15.den))) ≤ 9223372036854775807) ∧ ((-9223372036854775808) ≤ ((Y (e15.den))) ∧ ((Y (e15.den))) ≤ 9223372036854775807)))) ∧ (∀ e14 : E, ((0 ≤ e14.den ∧ e14.den < m) → (((-9223372036854775808) ≤ ((V (e14.den))) ∧ ((V (e14.den))) ≤ 9223372036854775807) ∧ ((-9223372036854775808) ≤ ((U (e14.den))) ∧ ((U (e14.den))) ≤ 9223372036854775807))))) → (((n ≠ m) → (((eqP X Y n V U m) = false) ∧ (((n ≤ n) ∧ (∀ e2 : E, ((0 ≤ e2.den ∧ e2.den < n) → ((((X (e2.den))) = ((X (e2.den)))) ∧ (((Y (e2.den))) = ((Y (e2.den)))))))) ∧ ((m ≤ m) ∧ (∀ e1 : E, ((0 ≤ e1.den ∧ e1.den < m) → ((((V (e1.den))) = ((V (e1.den)))) ∧ (((U (e1.den))) = ((U (e1.den))))))))))) ∧ ((n = m) → ((∃ y4 : Int, (((0 ≤ y4 ∧ y4 ≤ n) ∧ ∀ i, 0 ≤ i → i < y4 → (decide ((X (i)) = (V (i))) && decide ((Y (i)) = (U (i)))) = true) ∧ (((n = n) ∧ ((m = m) ∧ ((0 : Int) = y4))) ∧ (((n ≤ n) ∧ (∀ e6 : E, ((0 ≤ e6.den ∧ e6.den < n) → ((((X (e6.den))) = ((X (e6.den)))) ∧ (((Y (e6.den))) = ((Y (e6.den)))))))) ∧ ((m ≤ m) ∧ (∀ e5 : E, ((0 ≤ e5.den ∧ e5.den < m) → ((((V (e5.den))) = ((V (e5.den)))) ∧ (((U (e5.den))) = ((U (e5.den)))))))))))) ∧ (∀ x3 : Int, (((0 ≤ x3 ∧ x3 ≤ n) ∧ ∀ i, 0 ≤ i → i < x3 → (decide ((X (i)) = (V (i))) && decide ((Y (i)) = (U (i)))) = true) → (((x3 < n) → ((((0 ≤ x3) ∧ (x3 < n))) ∧ ((x3 < n) ∧ ((((0 ≤ x3) ∧ (x3 < m))) ∧ ((x3 < m) ∧ ((((((X (x3))) = ((X (x3)))) ∧ (((Y (x3))) = ((Y (x3))))) ∧ ((((V (x3))) = ((V (x3)))) ∧ (((U (x3))) = ((U (x3)))))) ∧ ((((decide (((X (x3))) = ((V (x3)))) && decide (((Y (x3))) = ((U (x3))))) = false) → (((eqP X Y n V U m) = false) ∧ (((n ≤ n) ∧ (∀ e8 : E, ((0 ≤ e8.den ∧ e8.den < n) → ((((X (e8.den))) = ((X (e8.den)))) ∧ (((Y (e8.den))) = ((Y (e8.den)))))))) ∧ ((m ≤ m) ∧ (∀ e7 : E, ((0 ≤ e7.den ∧ e7.den < m) → ((((V (e7.den))) = ((V (e7.den)))) ∧ (((U (e7.den))) = ((U (e7.den))))))))))) ∧ (((decide (((X (x3))) = ((V (x3)))) && decide (((Y (x3))) = ((U (x3))))) = true) → (∃ y9 : Int, (((0 ≤ y9 ∧ y9 ≤ n) ∧ ∀ i, 0 ≤ i → i < y9 → (decide ((X (i)) = (V (i))) && decide ((Y (i)) = (U (i)))) = true) ∧ ((((n = n) ∧ ((m = m) ∧ (((x3 + 1) = y9) ∧ ((1 ≤ (x3 + 1) ∧ (x3 + 1) ≤ 1048577) → (0 ≤ y9 ∧ y9 ≤ 1048576))))) ∧ (((n ≤ n) ∧ (∀ e11 : E, ((0 ≤ e11.den ∧ e11.den < n) → ((((X (e11.den))) = ((X (e11.den)))) ∧ (((Y (e11.den))) = ((Y (e11.den)))))))) ∧ ((m ≤ m) ∧ (∀ e10 : E, ((0 ≤ e10.den ∧ e10.den < m) → ((((V (e10.den))) = ((V (e10.den)))) ∧ (((U (e10.den))) = ((U (e10.den)))))))))) ∧ ((n - y9).toNat < (n - x3).toNat)))))))))))) ∧ ((n ≤ x3) → (((eqP X Y n V U m) = true) ∧ (((n ≤ n) ∧ (∀ e13 : E, ((0 ≤ e13.den ∧ e13.den < n) → ((((X (e13.den))) = ((X (e13.den)))) ∧ (((Y (e13.den))) = ((Y (e13.den)))))))) ∧ ((m ≤ m) ∧ (∀ e12 : E, ((0 ≤ e12.den ∧ e12.den < m) → ((((V (e12.den))) = ((V (e12.den)))) ∧ (((U (e12.den))) = ((U (e12.den)))))))))))))))))) (by kernel_rfl) ?_
  intro h1 h2
  refine ⟨?_, ?_⟩
  · intro c16
    refine ⟨?_, ⟨Int.le_refl _, fun _ => fun _ => ⟨rfl, rfl⟩⟩, Int.le_refl _, fun _ => fun _ => ⟨rfl, rfl⟩⟩
    simp [eqP]; omega
  · intro c17
    refine ⟨?_, ?_⟩
    · refine ⟨0, ?_⟩
      try dsimp only
      refine ⟨?_, ?_, ⟨Int.le_refl _, fun _ => fun _ => ⟨rfl, rfl⟩⟩, Int.le_refl _, fun _ => fun _ => ⟨rfl, rfl⟩⟩
      · refine ⟨by omega, fun i a b => ?_⟩; first | (exfalso; omega) | (by_cases e : i = j; (subst e; assumption); exact I1.2 i a (by omega))
      · refine ⟨rfl, rfl, ?_⟩
        rfl
    · intro j
      intro I1
      refine ⟨?_, ?_⟩
      · intro c18
        refine ⟨?_, ?_, ?_, ?_, ⟨⟨rfl, rfl⟩, ⟨rfl, rfl⟩⟩, ?_, ?_⟩
        · omega
        · omega
        · omega
        · omega
        · intro c19
          refine ⟨?_, ⟨Int.le_refl _, fun _ => fun _ => ⟨rfl, rfl⟩⟩, Int.le_refl _, fun _ => fun _ => ⟨rfl, rfl⟩⟩
          simp only [eqP]; rw [allB_false (q := fun i => decide (X i = V i) && decide (Y i = U i)) I1.1.1 (by omega) (by assumption)]; simp; done
        · intro c20
          refine ⟨j + 1, ?_⟩
          try dsimp only
          refine ⟨?_, ?_, ?_⟩
          · refine ⟨by omega, fun i a b => ?_⟩; first | (exfalso; omega) | (by_cases e : i = j; (subst e; assumption); exact I1.2 i a (by omega))
          · refine ⟨?_, ⟨Int.le_refl _, fun _ => fun _ => ⟨rfl, rfl⟩⟩, Int.le_refl _, fun _ => fun _ => ⟨rfl, rfl⟩⟩
            refine ⟨rfl, rfl, ?_, ?_⟩
            · rfl
            · intro c21
              omega
          · omega
      · intro c22
        refine ⟨?_, ⟨Int.le_refl _, fun _ => fun _ => ⟨rfl, rfl⟩⟩, Int.le_refl _, fun _ => fun _ => ⟨rfl, rfl⟩⟩
        simp only [eqP]; rw [allB_iff.2 fun i a b => I1.2 i a (by omega)]; simp; omega
def c_l_eqPairS (X : Int → Int) (Y : Int → Int) (n : Int) (V : Int → Int) (U : Int → Int) (m : Int) : Cn Try.prog := ⟨_, _, _, _, _, l_eqPairS X Y n V U m⟩
theorem l_markPairS (X : Int → Int) (Y : Int → Int) (n : Int) (s : Int) : RunsTo Try.prog 40 [(.sl 0 2 (.lit 0) (.v fun _ => n) 1048576), (.int .i64 (.v fun _ => s) 0 1048576)] [some ⟨58, 2, true, (.sym (.v fun _ => n) fun e => [(.int .i64 (.v fun _ => (X (e.den))) (-9223372036854775808) 9223372036854775807), (.int .i64 (.v fun _ => (Y (e.den))) (-9223372036854775808) 9223372036854775807)])⟩] (.int .i64 (.v fun _ => s + 2 * n) 0 4194304) [some ⟨58, 2, true, (.sym (.v fun _ => n) fun e => [(.int .i64 (.v fun _ => s + 2 * e.den) 0 4194304), (.int .i64 (.v fun _ => s + 2 * e.den + 1) 0 4194304)])⟩] := by
  refine RunsTo.go env Try.func40 rfl Try.call40 rfl rfl (fun _ _ => (.loop [] [0] (Int) (fun x1 => ⟨spl 27 0 [(0, (.sl 0 2 (.lit 0) (.v fun _ => n) 1048576)), (1, (.int .i64 (.v fun _ => s + 2 * x1) 0 4194304)), (4, (.int .i64 (.lit 0) 0 0)), (5, (.int .i64 (.v fun _ => x1) 0 1048576))], [some ⟨58, 2, true, (.sym (.v fun _ => n) fun e => [(.int .i64 (.v fun _ => mkX X s x1 (e.den)) (-9223372036854775808) 9223372036854775807), (.int .i64 (.v fun _ => mkY Y s x1 (e.den)) (-9223372036854775808) 9223372036854775807)])⟩], 1⟩) (fun x1 => 0 ≤ x1 ∧ x1 ≤ n) (fun x1 => (n - x1).toNat) fun x1 => (.ite (.need (.need (.need (.need (.next [0]))))) (.out .ret)))) (G := ((0 ≤ n ∧ n ≤ 1048576) ∧ (0 ≤ s ∧ s ≤ 1048576)) → (∀ e9 : E, ((0 ≤ e9.den ∧ e9.den < n) → (((-9223372036854775808) ≤ ((X (e9.den))) ∧ ((X (e9.den))) ≤ 9223372036854775807) ∧ ((-9223372036854775808) ≤ ((Y (e9.den))) ∧ ((Y (e9.den))) ≤ 9223372036854775807)))) → ((∃ y2 : Int, ((0 ≤ y2 ∧ y2 ≤ n) ∧ (((n = n) ∧ ((s = (s + 2 * y2)) ∧ ((0 : Int) = y2))) ∧ ((n ≤ n) ∧ (∀ e3 : E, ((0 ≤ e3.den ∧ e3.den < n) → ((((X (e3.den))) = (mkX X s y2 (e3.den))) ∧ (((Y (e3.den))) = (mkY Y s y2 (e3.den)))))))))) ∧ (∀ x1 : Int, ((0 ≤ x1 ∧ x1 ≤ n) → (((x1 < n) → ((((0 ≤ x1) ∧ (x1 < n))) ∧ ((x1 < n) ∧ ((((0 ≤ x1) ∧ (x1 < n))) ∧ ((x1 < n) ∧ (∃ y4 : Int, ((0 ≤ y4 ∧ y4 ≤ n) ∧ ((((n = n) ∧ ((((((s + 2 * x1) + 1) + 1) = (s + 2 * y4)) ∧ ((2 ≤ (((s + 2 * x1) + 1) + 1) ∧ (((s + 2 * x1) + 1) + 1) ≤ 4194306) → (0 ≤ (s + 2 * y4) ∧ (s + 2 * y4) ≤ 4194304))) ∧ (((x1 + 1) = y4) ∧ ((1 ≤ (x1 + 1) ∧ (x1 + 1) ≤ 1048577) → (0 ≤ y4 ∧ y4 ≤ 1048576))))) ∧ ((n = n) ∧ (((∀ e6 : E, ((0 ≤ e6.den ∧ e6.den < n ∧ e6.den ≠ x1 ∧ e6.den ≠ x1) → (((mkX X s x1 (e6.den)) = (mkX X s y4 (e6.den))) ∧ ((mkY Y s x1 (e6.den)) = (mkY Y s y4 (e6.den)))))) ∧ (∀ e7 : E, ((e7.den.toNat = (x1 : Int).toNat ∧ 0 ≤ e7.den ∧ e7.den ≠ x1) → (((s + 2 * x1) = (mkX X s y4 (e7.den))) ∧ ((mkY Y s x1 (x1)) = (mkY Y s y4 (e7.den))))))) ∧ (∀ e5 : E, ((e5.den.toNat = (x1 : Int).toNat ∧ 0 ≤ e5.den) → (((if decide ((x1 : Int).toNat = (x1 : Int).toNat) = true then (s + 2 * x1) else (mkX X s x1 (x1))) = (mkX X s y4 (e5.den))) ∧ (((s + 2 * x1) + 1) = (mkY Y s y4 (e5.den))))))))) ∧ ((n - y4).toNat < (n - x1).toNat))))))))) ∧ ((n ≤ x1) → (((s + 2 * x1) = (s + 2 * n)) ∧ ((n ≤ n) ∧ (∀ e8 : E, ((0 ≤ e8.den ∧ e8.den < n) → ((((mkX X s x1 (e8.den)) = (s + 2 * e8.den)) ∧ (((-9223372036854775808) ≤ (mkX X s x1 (e8.den)) ∧ (mkX X s x1 (e8.den)) ≤ 9223372036854775807) → (0 ≤ (s + 2 * e8.den) ∧ (s + 2 * e8.den) ≤ 4194304))) ∧ (((mkY Y s x1 (e8.den)) = (s + 2 * e8.den + 1)) ∧ (((-9223372036854775808) ≤ (mkY Y s x1 (e8.den)) ∧ (mkY Y s x1 (e8.den)) ≤ 9223372036854775807) → (0 ≤ (s + 2 * e8.den + 1) ∧ (s + 2 * e8.den + 1) ≤ 4194304)))))))))))))) (by kernel_rfl) ?_
  intro h1 h2
  refine ⟨?_, ?_⟩
  · refine ⟨0, ?_⟩
    try dsimp only
    refine ⟨?_, ?_, Int.le_refl _, ?_⟩
    · omega
    · refine ⟨rfl, ?_, ?_⟩
      · omega
      · rfl
    · intro e3
      intro c10
      refine ⟨?_, ?_⟩
      · simp [mkX, mkY, *]; omega
      · simp [mkX, mkY, *]; omega
  · intro j
    intro I1
    refine ⟨?_, ?_⟩
    · intro c11
      refine ⟨?_, ?_, ?_, ?_, ?_⟩
      · omega
      · omega
      · omega
      · omega
      · refine ⟨j + 1, ?_⟩
        try dsimp only
        refine ⟨?_, ?_, ?_⟩
        · omega
        · refine ⟨?_, rfl, ?_, ?_⟩
          · refine ⟨rfl, ?_, ?_, ?_⟩
            · refine ⟨?_, ?_⟩
              · omega
              · intro c12
                omega
            · rfl
            · intro c13
              omega
          · refine ⟨?_, ?_⟩
            · intro e6
              intro c14
              refine ⟨?_, ?_⟩
              · simp [mkX, mkY, *]; omega
              · simp [mkX, mkY, *]; omega
            · intro e7
              intro c15
              refine ⟨?_, ?_⟩
              · omega
              · omega
          · intro e5
            intro c16
            refine ⟨?_, ?_⟩
            · simp [mkX, mkY, *]; omega
            · simp [mkX, mkY, *]; omega
        · omega
    · intro c17
      refine ⟨?_, Int.le_refl _, ?_⟩
      · omega
      · intro e8
        intro c18
        refine ⟨?_, ?_, ?_⟩
        · refine ⟨?_, ?_⟩
          · simp [mkX, mkY, *]; omega
          · intro c19
            omega
        · simp [mkX, mkY, *]; omega
        · intro c20
          omega
def c_l_markPairS (X : Int → Int) (Y : Int → Int) (n : Int) (s : Int) : Cn Try.prog := ⟨_, _, _, _, _, l_markPairS X Y n s⟩
theorem l_heldPairS (X : Int → Int) (Y : Int → Int) (n : Int) (s : Int) : RunsTo Try.prog 41 [(.sl 0 2 (.lit 0) (.v fun _ => n) 1048576), (.int .i64 (.v fun _ => s) 0 1048576)] [some ⟨58, 2, true, (.sym (.v fun _ => n) fun e => [(.int .i64 (.v fun _ => (X (e.den))) 0 4194304), (.int .i64 (.v fun _ => (Y (e.den))) 0 4194304)])⟩] (.int .i64 (.v fun _ => if heldP X Y n s = true then s + 2 * n else -1) (-1) 4194304) [some ⟨58, 2, true, (.sym (.v fun _ => n) fun e => [(.int .i64 (.v fun _ => (X (e.den))) 0 4194304), (.int .i64 (.v fun _ => (Y (e.den))) 0 4194304)])⟩] := by
  refine RunsTo.go env Try.func41 rfl Try.call41 rfl rfl (fun _ _ => (.loop [] [0] (Int) (fun x1 => ⟨spl 31 0 [(0, (.sl 0 2 (.lit 0) (.v fun _ => n) 1048576)), (1, (.int .i64 (.v fun _ => s + 2 * x1) 0 4194304)), (5, (.int .i64 (.v fun _ => x1) 0 1048576))], [some ⟨58, 2, true, (.sym (.v fun _ => n) fun e => [(.int .i64 (.v fun _ => (X (e.den))) 0 4194304), (.int .i64 (.v fun _ => (Y (e.den))) 0 4194304)])⟩], 1⟩) (fun x1 => (0 ≤ x1 ∧ x1 ≤ n) ∧ ∀ i, 0 ≤ i → i < x1 → (decide ((X (i)) = s + 2 * i) && decide ((Y (i)) = s + 2 * i + 1)) = true) (fun x1 => (n - x1).toNat) fun x1 => (.ite (.need (.need (.ite (.out .ret) (.need (.need (.ite (.out .ret) (.next [0]))))))) (.out .ret)))) (G := ((0 ≤ n ∧ n ≤ 1048576) ∧ (0 ≤ s ∧ s ≤ 1048576)) → (∀ e9 : E, ((0 ≤ e9.den ∧ e9.den < n) → ((0 ≤ ((X (e9.den))) ∧ ((X (e9.den))) ≤ 4194304) ∧ (0 ≤ ((Y (e9.den))) ∧ ((Y (e9.den))) ≤ 4194304)))) → ((∃ y2 : Int, (((0 ≤ y2 ∧ y2 ≤ n) ∧ ∀ i, 0 ≤ i → i < y2 → (decide ((X (i)) = s + 2 * i) && decide ((Y (i)) = s + 2 * i + 1)) = true) ∧ (((n = n) ∧ ((s = (s + 2 * y2)) ∧ ((0 : Int) = y2))) ∧ ((n ≤ n) ∧ (∀ e3 : E, ((0 ≤ e3.den ∧ e3.den < n) → ((((X (e3.den))) = ((X (e3.den)))) ∧ (((Y (e3.den))) = ((Y (e3.den))))))))))) ∧ (∀ x1 : Int, (((0 ≤ x1 ∧ x1 ≤ n) ∧ ∀ i, 0 ≤ i → i < x1 → (decide ((X (i)) = s + 2 * i) && decide ((Y (i)) = s + 2 * i + 1)) = true) → (((x1 < n) → ((((0 ≤ x1) ∧ (x1 < n))) ∧ ((x1 < n) ∧ (((((X (x1))) ≠ (s + 2 * x1)) → ((((-1) : Int) = (if heldP X Y n s = true then s + 2 * n else -1)) ∧ ((n ≤ n) ∧ (∀ e4 : E, ((0 ≤ e4.den ∧ e4.den < n) → ((((X (e4.den))) = ((X (e4.den)))) ∧ (((Y (e4.den))) = ((Y (e4.den)))))))))) ∧ ((((X (x1))) = (s + 2 * x1)) → ((((0 ≤ x1) ∧ (x1 < n))) ∧ ((x1 < n) ∧ (((((Y (x1))) ≠ ((s + 2 * x1) + 1)) → ((((-1) : Int) = (if heldP X Y n s = true then s + 2 * n else -1)) ∧ ((n ≤ n) ∧ (∀ e5 : E, ((0 ≤ e5.den ∧ e5.den < n) → ((((X (e5.den))) = ((X (e5.den)))) ∧ (((Y (e5.den))) = ((Y (e5.den)))))))))) ∧ ((((Y (x1))) = ((s + 2 * x1) + 1)) → (∃ y6 : Int, (((0 ≤ y6 ∧ y6 ≤ n) ∧ ∀ i, 0 ≤ i → i < y6 → (decide ((X (i)) = s + 2 * i) && decide ((Y (i)) = s + 2 * i + 1)) = true) ∧ ((((n = n) ∧ ((((((s + 2 * x1) + 1) + 1) = (s + 2 * y6)) ∧ ((2 ≤ (((s + 2 * x1) + 1) + 1) ∧ (((s + 2 * x1) + 1) + 1) ≤ 4194306) → (0 ≤ (s + 2 * y6) ∧ (s + 2 * y6) ≤ 4194304))) ∧ (((x1 + 1) = y6) ∧ ((1 ≤ (x1 + 1) ∧ (x1 + 1) ≤ 1048577) → (0 ≤ y6 ∧ y6 ≤ 1048576))))) ∧ ((n ≤ n) ∧ (∀ e7 : E, ((0 ≤ e7.den ∧ e7.den < n) → ((((X (e7.den))) = ((X (e7.den)))) ∧ (((Y (e7.den))) = ((Y (e7.den))))))))) ∧ ((n - y6).toNat < (n - x1).toNat))))))))))))) ∧ ((n ≤ x1) → (((s + 2 * x1) = (if heldP X Y n s = true then s + 2 * n else -1)) ∧ ((n ≤ n) ∧ (∀ e8 : E, ((0 ≤ e8.den ∧ e8.den < n) → ((((X (e8.den))) = ((X (e8.den)))) ∧ (((Y (e8.den))) = ((Y (e8.den))))))))))))))) (by kernel_rfl) ?_
  intro h1 h2
  refine ⟨?_, ?_⟩
  · refine ⟨0, ?_⟩
    try dsimp only
    refine ⟨?_, ?_, Int.le_refl _, fun _ => fun _ => ⟨rfl, rfl⟩⟩
    · refine ⟨by omega, fun i a b => ?_⟩; first | (exfalso; omega) | (by_cases e : i = j; (subst e; simp only [Bool.and_eq_true, decide_eq_true_eq]; omega); exact I1.2 i a (by omega))
    · refine ⟨rfl, ?_, ?_⟩
      · omega
      · rfl
  · intro j
    intro I1
    refine ⟨?_, ?_⟩
    · intro c10
      refine ⟨?_, ?_, ?_, ?_⟩
      · omega
      · omega
      · intro c11
        refine ⟨?_, Int.le_refl _, fun _ => fun _ => ⟨rfl, rfl⟩⟩
        have hf : heldP X Y n s = false := allB_false (q := fun i => decide (X i = s + 2 * i) && decide (Y i = s + 2 * i + 1)) I1.1.1 (by omega) (by rw [← Bool.not_eq_true, Bool.and_eq_true, decide_eq_true_eq, decide_eq_true_eq]; omega); simp [hf]; done
      · intro c12
        refine ⟨?_, ?_, ?_, ?_⟩
        · omega
        · omega
        · intro c13
          refine ⟨?_, Int.le_refl _, fun _ => fun _ => ⟨rfl, rfl⟩⟩
          have hf : heldP X Y n s = false := allB_false (q := fun i => decide (X i = s + 2 * i) && decide (Y i = s + 2 * i + 1)) I1.1.1 (by omega) (by rw [← Bool.not_eq_true, Bool.and_eq_true, decide_eq_true_eq, decide_eq_true_eq]; omega); simp [hf]; done
        · intro c14
          refine ⟨j + 1, ?_⟩
          try dsimp only
          refine ⟨?_, ?_, ?_⟩
          · refine ⟨by omega, fun i a b => ?_⟩; first | (exfalso; omega) | (by_cases e : i = j; (subst e; simp only [Bool.and_eq_true, decide_eq_true_eq]; omega); exact I1.2 i a (by omega))
          · refine ⟨?_, Int.le_refl _, fun _ => fun _ => ⟨rfl, rfl⟩⟩
            refine ⟨rfl, ?_, ?_, ?_⟩
            · refine ⟨?_, ?_⟩
              · omega
              · intro c15
                omega
            · rfl
            · intro c16
              omega
          · omega
    · intro c17
      refine ⟨?_, Int.le_refl _, fun _ => fun _ => ⟨rfl, rfl⟩⟩
      have hf : heldP X Y n s = true := allB_iff.2 fun i a b => I1.2 i a (by omega); simp [hf]; omega
def c_l_heldPairS (X : Int → Int) (Y : Int → Int) (n : Int) (s : Int) : Cn Try.prog := ⟨_, _, _, _, _, l_heldPairS X Y n s⟩
theorem l_FnExactSpanningTree (X : Int → Int) (Y : Int → Int) (n : Int) : RunsTo Try.prog 8 [(.sl 0 2 (.lit 0) (.v fun _ => n) 9223372036854775807)] [some ⟨69, 2, false, (.sym (.v fun _ => n) fun e => [(.int .i64 (.v fun _ => (X (e.den))) (-9223372036854775808) 9223372036854775807), (.int .i64 (.v fun _ => (Y (e.den))) (-9223372036854775808) 9223372036854775807)])⟩] (.bool (.lit true)) [none] := by
  refine RunsTo.go env Try.func8 rfl Try.call8 rfl rfl (fun _ _ => (.callF (c_l_szPointS X Y n 1048576) (.ite .ret (.callF (c_l_toPointS X Y n) (.callF (c_s_SpanningTree X Y n) (.callF (c_l_toPointS X Y n) (.callF (c_i_SpanningTree X Y n) (.call (c_l_eqPairS (spU X Y n) (spV X Y n) (ssN X Y n) (spU X Y n) (spV X Y n) (ssN X Y n)) (.ite .ret (.callF (c_l_toPointS X Y n) (.call (c_l_eqPointS X Y n X Y n) (.ite .ret (.callF (c_l_markPointS X Y n 1) (.ite .ret (.call (c_l_eqPairS (spU X Y n) (spV X Y n) (ssN X Y n) (spU X Y n) (spV X Y n) (ssN X Y n)) (.ite .ret (.callF (c_l_markPairS (spU X Y n) (spV X Y n) (ssN X Y n) 1) (.callF (c_l_heldPairS (fun ι => 1 + 2 * (ι)) (fun ι => 1 + 2 * (ι) + 1) (ssN X Y n) 1) (.ite .ret (.ite .ret (.callF (c_l_toPointS X Y n) (.callF (c_i_SpanningTree X Y n) (.call (c_l_eqPairS (spU X Y n) (spV X Y n) (ssN X Y n) (spU X Y n) (spV X Y n) (ssN X Y n)) (.ite .ret (.callF (c_l_heldPairS ((fun ι => (1 + 2 * ((ι))))) ((fun ι => (1 + 2 * ((ι)) + 1))) (ssN X Y n) 1) (.ite .ret (.ite .ret .ret))))))))))))))))))))))))))) (G := (0 ≤ n ∧ n ≤ 9223372036854775807) → (∀ e21 : E, ((0 ≤ e21.den ∧ e21.den < n) → (((-9223372036854775808) ≤ ((X (e21.den))) ∧ ((X (e21.den))) ≤ 9223372036854775807) ∧ ((-9223372036854775808) ≤ ((Y (e21.den))) ∧ ((Y (e21.den))) ≤ 9223372036854775807)))) → (((n = n) ∧ ((1048576 : Int) = 1048576)) ∧ (((n ≤ n) ∧ (∀ e1 : E, ((0 ≤ e1.den ∧ e1.den < n) → ((((X (e1.den))) = ((X (e1.den)))) ∧ (((Y (e1.den))) = ((Y (e1.den)))))))) ∧ (((-1) ≤ (if 1048576 - n < 0 then -1 else 1048576 - n) ∧ (if 1048576 - n < 0 then -1 else 1048576 - n) ≤ 1048576) → ((0 ≤ (if 1048576 - n < 0 then -1 else 1048576 - n)) → (((n = n) ∧ ((n ≤ 9223372036854775807) → (n ≤ 1048576))) ∧ (((n ≤ n) ∧ (∀ e2 : E, ((0 ≤ e2.den ∧ e2.den < n) → ((((X (e2.den))) = ((X (e2.den)))) ∧ (((Y (e2.den))) = ((Y (e2.den)))))))) ∧ ((0 ≤ n ∧ n ≤ 1048576) → ((n = n) ∧ (((n ≤ n) ∧ (∀ e3 : E, ((0 ≤ e3.den ∧ e3.den < n) → ((((X (e3.den))) = ((X (e3.den)))) ∧ (((Y (e3.den))) = ((Y (e3.den)))))))) ∧ ((0 ≤ (ssN X Y n) ∧ (ssN X Y n) ≤ 20) → (((n = n) ∧ ((n ≤ 9223372036854775807) → (n ≤ 1048576))) ∧ (((n ≤ n) ∧ (∀ e4 : E, ((0 ≤ e4.den ∧ e4.den < n) → ((((X (e4.den))) = ((X (e4.den)))) ∧ (((Y (e4.den))) = ((Y (e4.den)))))))) ∧ ((0 ≤ n ∧ n ≤ 1048576) → ((n = n) ∧ (((n ≤ n) ∧ (∀ e5 : E, ((0 ≤ e5.den ∧ e5.den < n) → ((((X (e5.den))) = ((X (e5.den)))) ∧ (((Y (e5.den))) = ((Y (e5.den)))))))) ∧ ((0 ≤ (ssN X Y n) ∧ (ssN X Y n) ≤ 1048576) → ((((ssN X Y n) = (ssN X Y n)) ∧ ((ssN X Y n) = (ssN X Y n))) ∧ (((((ssN X Y n) ≤ (ssN X Y n)) ∧ (∀ e7 : E, ((0 ≤ e7.den ∧ e7.den < (ssN X Y n)) → (((spU X Y n (e7.den)) = (spU X Y n ((e7.den)))) ∧ ((spV X Y n (e7.den)) = (spV X Y n ((e7.den)))))))) ∧ (((ssN X Y n) ≤ (ssN X Y n)) ∧ (∀ e6 : E, ((0 ≤ e6.den ∧ e6.den < (ssN X Y n)) → (((spU X Y n (e6.den)) = (spU X Y n ((e6.den)))) ∧ ((spV X Y n (e6.den)) = (spV X Y n ((e6.den))))))))) ∧ ((((eqP (spU X Y n) (spV X Y n) (ssN X Y n) (spU X Y n) (spV X Y n) (ssN X Y n)) = false) → (False)) ∧ (((eqP (spU X Y n) (spV X Y n) (ssN X Y n) (spU X Y n) (spV X Y n) (ssN X Y n)) = true) → (((n = n) ∧ ((n ≤ 9223372036854775807) → (n ≤ 1048576))) ∧ (((n ≤ n) ∧ (∀ e8 : E, ((0 ≤ e8.den ∧ e8.den < n) → ((((X (e8.den))) = ((X (e8.den)))) ∧ (((Y (e8.den))) = ((Y (e8.den)))))))) ∧ ((0 ≤ n ∧ n ≤ 1048576) → (((n = n) ∧ (n = n)) ∧ ((((n ≤ n) ∧ (∀ e10 : E, ((0 ≤ e10.den ∧ e10.den < n) → ((((X (e10.den))) = ((X (e10.den)))) ∧ (((Y (e10.den))) = ((Y (e10.den)))))))) ∧ ((n ≤ n) ∧ (∀ e9 : E, ((0 ≤ e9.den ∧ e9.den < n) → ((((X (e9.den))) = ((X (e9.den)))) ∧ (((Y (e9.den))) = ((Y (e9.den))))))))) ∧ ((((eqP X Y n X Y n) = false) → (False)) ∧ (((eqP X Y n X Y n) = true) → (((n = n) ∧ ((1 : Int) = 1)) ∧ (((n ≤ n) ∧ (∀ e11 : E, ((0 ≤ e11.den ∧ e11.den < n) → ((((X (e11.den))) = ((X (e11.den)))) ∧ (((Y (e11.den))) = ((Y (e11.den)))))))) ∧ ((0 ≤ (1 + 2 * n) ∧ (1 + 2 * n) ≤ 4194304) → ((((1 + 2 * n) < 0) → (False)) ∧ ((0 ≤ (1 + 2 * n)) → ((((ssN X Y n) = (ssN X Y n)) ∧ ((ssN X Y n) = (ssN X Y n))) ∧ (((((ssN X Y n) ≤ (ssN X Y n)) ∧ (∀ e13 : E, ((0 ≤ e13.den ∧ e13.den < (ssN X Y n)) → (((spU X Y n ((e13.den))) = (((spU X Y n (((e13.den))))))) ∧ ((spV X Y n ((e13.den))) = (((spV X Y n (((e13.den))))))))))) ∧ (((ssN X Y n) ≤ (ssN X Y n)) ∧ (∀ e12 : E, ((0 ≤ e12.den ∧ e12.den < (ssN X Y n)) → (((spU X Y n ((e12.den))) = (((spU X Y n (((e12.den))))))) ∧ ((spV X Y n ((e12.den))) = (((spV X Y n (((e12.den)))))))))))) ∧ ((((eqP (spU X Y n) (spV X Y n) (ssN X Y n) (spU X Y n) (spV X Y n) (ssN X Y n)) = false) → (False)) ∧ (((eqP (spU X Y n) (spV X Y n) (ssN X Y n) (spU X Y n) (spV X Y n) (ssN X Y n)) = true) → ((((ssN X Y n) = (ssN X Y n)) ∧ ((1 : Int) = 1)) ∧ ((((ssN X Y n) ≤ (ssN X Y n)) ∧ (∀ e14 : E, ((0 ≤ e14.den ∧ e14.den < (ssN X Y n)) → (((((spU X Y n (((e14.den)))))) = ((((spU X Y n ((((e14.den))))))))) ∧ ((((spV X Y n (((e14.den)))))) = ((((spV X Y n ((((e14.den))))))))))))) ∧ ((0 ≤ (1 + 2 * (ssN X Y n)) ∧ (1 + 2 * (ssN X Y n)) ≤ 4194304) → ((((ssN X Y n) = (ssN X Y n)) ∧ ((1 : Int) = 1)) ∧ ((((ssN X Y n) ≤ (ssN X Y n)) ∧ (∀ e15 : E, ((0 ≤ e15.den ∧ e15.den < (ssN X Y n)) → (((1 + 2 * (e15.den)) = (1 + 2 * ((e15.den)))) ∧ ((1 + 2 * (e15.den) + 1) = (1 + 2 * ((e15.den)) + 1)))))) ∧ (((-1) ≤ (if heldP (fun ι => 1 + 2 * (ι)) (fun ι => 1 + 2 * (ι) + 1) (ssN X Y n) 1 = true then 1 + 2 * (ssN X Y n) else -1) ∧ (if heldP (fun ι => 1 + 2 * (ι)) (fun ι => 1 + 2 * (ι) + 1) (ssN X Y n) 1 = true then 1 + 2 * (ssN X Y n) else -1) ≤ 4194304) → ((((if heldP (fun ι => 1 + 2 * (ι)) (fun ι => 1 + 2 * (ι) + 1) (ssN X Y n) 1 = true then 1 + 2 * (ssN X Y n) else -1) < 0) → (False)) ∧ ((0 ≤ (if heldP (fun ι => 1 + 2 * (ι)) (fun ι => 1 + 2 * (ι) + 1) (ssN X Y n) 1 = true then 1 + 2 * (ssN X Y n) else -1)) → ((((if heldP (fun ι => 1 + 2 * (ι)) (fun ι => 1 + 2 * (ι) + 1) (ssN X Y n) 1 = true then 1 + 2 * (ssN X Y n) else -1) ≠ (1 + 2 * (ssN X Y n))) → (False)) ∧ (((if heldP (fun ι => 1 + 2 * (ι)) (fun ι => 1 + 2 * (ι) + 1) (ssN X Y n) 1 = true then 1 + 2 * (ssN X Y n) else -1) = (1 + 2 * (ssN X Y n))) → (((n = n) ∧ ((n ≤ 9223372036854775807) → (n ≤ 1048576))) ∧ (((n ≤ n) ∧ (∀ e16 : E, ((0 ≤ e16.den ∧ e16.den < n) → ((((X (e16.den))) = ((X (e16.den)))) ∧ (((Y (e16.den))) = ((Y (e16.den)))))))) ∧ ((0 ≤ n ∧ n ≤ 1048576) → ((n = n) ∧ (((n ≤ n) ∧ (∀ e17 : E, ((0 ≤ e17.den ∧ e17.den < n) → ((((X (e17.den))) = ((X (e17.den)))) ∧ (((Y (e17.den))) = ((Y (e17.den)))))))) ∧ ((0 ≤ (ssN X Y n) ∧ (ssN X Y n) ≤ 1048576) → ((((ssN X Y n) = (ssN X Y n)) ∧ ((ssN X Y n) = (ssN X Y n))) ∧ (((((ssN X Y n) ≤ (ssN X Y n)) ∧ (∀ e19 : E, ((0 ≤ e19.den ∧ e19.den < (ssN X Y n)) → (((spU X Y n (e19.den)) = (spU X Y n ((e19.den)))) ∧ ((spV X Y n (e19.den)) = (spV X Y n ((e19.den)))))))) ∧ (((ssN X Y n) ≤ (ssN X Y n)) ∧ (∀ e18 : E, ((0 ≤ e18.den ∧ e18.den < (ssN X Y n)) → (((((spU X Y n (((e18.den)))))) = ((((spU X Y n ((((e18.den))))))))) ∧ ((((spV X Y n (((e18.den)))))) = ((((spV X Y n ((((e18.den)))))))))))))) ∧ ((((eqP (spU X Y n) (spV X Y n) (ssN X Y n) (spU X Y n) (spV X Y n) (ssN X Y n)) = false) → (False)) ∧ (((eqP (spU X Y n) (spV X Y n) (ssN X Y n) (spU X Y n) (spV X Y n) (ssN X Y n)) = true) → ((((ssN X Y n) = (ssN X Y n)) ∧ ((1 : Int) = 1)) ∧ ((((ssN X Y n) ≤ (ssN X Y n)) ∧ (∀ e20 : E, ((0 ≤ e20.den ∧ e20.den < (ssN X Y n)) → (((1 + 2 * ((e20.den))) = (((1 + 2 * (((e20.den))))))) ∧ ((1 + 2 * ((e20.den)) + 1) = (((1 + 2 * (((e20.den))) + 1)))))))) ∧ (((-1) ≤ (if heldP ((fun ι => (1 + 2 * ((ι))))) ((fun ι => (1 + 2 * ((ι)) + 1))) (ssN X Y n) 1 = true then 1 + 2 * (ssN X Y n) else -1) ∧ (if heldP ((fun ι => (1 + 2 * ((ι))))) ((fun ι => (1 + 2 * ((ι)) + 1))) (ssN X Y n) 1 = true then 1 + 2 * (ssN X Y n) else -1) ≤ 4194304) → ((((if heldP ((fun ι => (1 + 2 * ((ι))))) ((fun ι => (1 + 2 * ((ι)) + 1))) (ssN X Y n) 1 = true then 1 + 2 * (ssN X Y n) else -1) < 0) → (False)) ∧ ((0 ≤ (if heldP ((fun ι => (1 + 2 * ((ι))))) ((fun ι => (1 + 2 * ((ι)) + 1))) (ssN X Y n) 1 = true then 1 + 2 * (ssN X Y n) else -1)) → (((if heldP ((fun ι => (1 + 2 * ((ι))))) ((fun ι => (1 + 2 * ((ι)) + 1))) (ssN X Y n) 1 = true then 1 + 2 * (ssN X Y n) else -1) ≠ (1 + 2 * (ssN X Y n))) → (False)))))))))))))))))))))))))))))))))))))))))))))))))))))))))))))))) (by kernel_rfl) ?_
  intro h1 h2
  refine ⟨⟨rfl, rfl⟩, ⟨Int.le_refl _, fun _ => fun _ => ⟨rfl, rfl⟩⟩, ?_⟩
  intro c22
  intro c23
  refine ⟨?_, ⟨Int.le_refl _, fun _ => fun _ => ⟨rfl, rfl⟩⟩, ?_⟩
  · refine ⟨rfl, ?_⟩
    intro c24
    omega
  · intro c25
    refine ⟨rfl, ⟨Int.le_refl _, fun _ => fun _ => ⟨rfl, rfl⟩⟩, ?_⟩
    intro c26
    refine ⟨?_, ⟨Int.le_refl _, fun _ => fun _ => ⟨rfl, rfl⟩⟩, ?_⟩
    · refine ⟨rfl, ?_⟩
      intro c27
      omega
    · intro c28
      refine ⟨rfl, ⟨Int.le_refl _, fun _ => fun _ => ⟨rfl, rfl⟩⟩, ?_⟩
      intro c29
      refine ⟨⟨rfl, rfl⟩, ⟨⟨Int.le_refl _, fun _ => fun _ => ⟨rfl, rfl⟩⟩, ⟨Int.le_refl _, fun _ => fun _ => ⟨rfl, rfl⟩⟩⟩, ?_, ?_⟩
      · intro c30
        simp_all [eqP_refl, heldP_mark]; done
      · intro c31
        refine ⟨?_, ⟨Int.le_refl _, fun _ => fun _ => ⟨rfl, rfl⟩⟩, ?_⟩
        · refine ⟨rfl, ?_⟩
          intro c32
          omega
        · intro c33
          refine ⟨⟨rfl, rfl⟩, ⟨⟨Int.le_refl _, fun _ => fun _ => ⟨rfl, rfl⟩⟩, ⟨Int.le_refl _, fun _ => fun _ => ⟨rfl, rfl⟩⟩⟩, ?_, ?_⟩
          · intro c34
            simp_all [eqP_refl, heldP_mark]; done
          · intro c35
            refine ⟨⟨rfl, rfl⟩, ⟨Int.le_refl _, fun _ => fun _ => ⟨rfl, rfl⟩⟩, ?_⟩
            intro c36
            refine ⟨?_, ?_⟩
            · intro c37
              omega
            · intro c38
              refine ⟨⟨rfl, rfl⟩, ⟨⟨Int.le_refl _, fun _ => fun _ => ⟨rfl, rfl⟩⟩, ⟨Int.le_refl _, fun _ => fun _ => ⟨rfl, rfl⟩⟩⟩, ?_, ?_⟩
              · intro c39
                simp_all [eqP_refl, heldP_mark]; done
              · intro c40
                refine ⟨⟨rfl, rfl⟩, ⟨Int.le_refl _, fun _ => fun _ => ⟨rfl, rfl⟩⟩, ?_⟩
                intro c41
                refine ⟨⟨rfl, rfl⟩, ⟨Int.le_refl _, fun _ => fun _ => ⟨rfl, rfl⟩⟩, ?_⟩
                intro c42
                refine ⟨?_, ?_⟩
                · intro c43
                  simp_all [eqP_refl, heldP_mark]; omega
                · intro c44
                  refine ⟨?_, ?_⟩
                  · intro c45
                    omega
                  · intro c46
                    refine ⟨?_, ⟨Int.le_refl _, fun _ => fun _ => ⟨rfl, rfl⟩⟩, ?_⟩
                    · refine ⟨rfl, ?_⟩
                      intro c47
                      omega
                    · intro c48
                      refine ⟨rfl, ⟨Int.le_refl _, fun _ => fun _ => ⟨rfl, rfl⟩⟩, ?_⟩
                      intro c49
                      refine ⟨⟨rfl, rfl⟩, ⟨⟨Int.le_refl _, fun _ => fun _ => ⟨rfl, rfl⟩⟩, ⟨Int.le_refl _, fun _ => fun _ => ⟨rfl, rfl⟩⟩⟩, ?_, ?_⟩
                      · intro c50
                        simp_all [eqP_refl, heldP_mark]; done
                      · intro c51
                        refine ⟨⟨rfl, rfl⟩, ⟨Int.le_refl _, fun _ => fun _ => ⟨rfl, rfl⟩⟩, ?_⟩
                        intro c52
                        refine ⟨?_, ?_⟩
                        · intro c53
                          omega
                        · intro c54
                          intro c55
                          omega
def c_l_FnExactSpanningTree (X : Int → Int) (Y : Int → Int) (n : Int) : Cn Try.prog := ⟨_, _, _, _, _, l_FnExactSpanningTree X Y n⟩
end Go.Proofs.Ytcfkpdjbjfnnmaa
