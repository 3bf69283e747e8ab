/- FnSpanningTree: the walk. -/
import Derived.Test.YtcfkpdjbjfnnmaaK72
import Derived.Test.YtcfkpdjbjfnnmaaK70
import Derived.Test.YtcfkpdjbjfnnmaaK3
import Derived.Test.YtcfkpdjbjfnnmaaK62
set_option linter.unusedSimpArgs false
set_option linter.unusedVariables false
set_option maxRecDepth 100000
namespace Go.Proofs.Ytcfkpdjbjfnnmaa
open Go.Sym
def dX (C : Int → Int) (n : Int) : Int → Int := anX C (cut n) 0 8
def dY (C : Int → Int) (n : Int) : Int → Int := anY C (cut n) 0 8
def dN (C : Int → Int) (n : Int) : Int := anN C (cut n) 0 8
def mhV (aX aY bX bY : Int) : Int := if okP aX aY && okP bX bY then mht aX aY bX bY else -1
theorem al2 (aX aY bX bY : Int) : allB (fun i => okP (selL [aX, bX] i) (selL [aY, bY] i)) 2 = (okP aX aY && okP bX bY) := by rw [allB2]; rfl
theorem mh_n {aX aY bX bY : Int} (h : allB (fun i => okP (selL [aX, bX] i) (selL [aY, bY] i)) 2 = false) : mhV aX aY bX bY = -1 := by
  rw [al2] at h
  unfold mhV
  rw [h]
  rfl
theorem mh_y {aX aY bX bY : Int} (h : allB (fun i => okP (selL [aX, bX] i) (selL [aY, bY] i)) 2 = true) : mhV aX aY bX bY = mht aX aY bX bY ∧ ((-1000 ≤ aX ∧ aX ≤ 1000) ∧ -1000 ≤ aY ∧ aY ≤ 1000) ∧ (-1000 ≤ bX ∧ bX ≤ 1000) ∧ -1000 ≤ bY ∧ bY ≤ 1000 := by
  rw [al2] at h
  refine ⟨by unfold mhV; rw [h]; rfl, ?_⟩
  rw [Bool.and_eq_true, okP_iff, okP_iff] at h
  omega
theorem mh_of {aX aY bX bY : Int} (h : ((-1000 ≤ aX ∧ aX ≤ 1000) ∧ -1000 ≤ aY ∧ aY ≤ 1000) ∧ (-1000 ≤ bX ∧ bX ≤ 1000) ∧ -1000 ≤ bY ∧ bY ≤ 1000) : mhV aX aY bX bY = mht aX aY bX bY := by
  unfold mhV
  rw [if_pos]
  rw [Bool.and_eq_true, okP_iff, okP_iff]
  omega
theorem s_DrawSpanningTree (C : Int → Int) (n : Int) : RunsTo Try.prog 35 [(.sl 0 1 (.lit 0) (.v fun _ => n) 9223372036854775807)] [some ⟨5, 1, false, (.sym (.v fun _ => n) fun e => [(.int .u8 (.v fun _ => (C (e.den))) 0 255)])⟩] (.sl 1 2 (.lit 0) (.v fun _ => dN C n) 64) [some ⟨5, 1, false, (.sym (.v fun _ => cut n) fun e => [(.int .u8 (.v fun _ => (C (e.den))) 0 255)])⟩, some ⟨50, 2, true, (.sym (.v fun _ => dN C n) fun e => [(.int .i64 (.v fun _ => dX C n e.den) (-200) 1001), (.int .i64 (.v fun _ => dY C n e.den) (-111) 481)])⟩] := by
  refine RunsTo.go env Try.func35 rfl Try.call35 rfl rfl (fun _ _ => (.call (c_s_newReader C n) (.call (c_anyPoints C (cut n) 0 8) .ret))) (G := (0 ≤ n ∧ n ≤ 9223372036854775807) → (∀ e5 : E, ((0 ≤ e5.den ∧ e5.den < n) → (0 ≤ ((C (e5.den))) ∧ ((C (e5.den))) ≤ 255))) → ((n = n) ∧ (((n ≤ n) ∧ (∀ e1 : E, ((0 ≤ e1.den ∧ e1.den < n) → (((C (e1.den))) = ((C (e1.den))))))) ∧ (((8 : Int) = 8) ∧ (((((cut n) = (cut n)) ∧ ((0 : Int) = 0)) ∧ (((cut n) ≤ (cut n)) ∧ (∀ e2 : E, ((0 ≤ e2.den ∧ e2.den < (cut n)) → (((C (e2.den))) = ((C (e2.den)))))))) ∧ (((anN C (cut n) 0 8) = (dN C n)) ∧ ((((cut n) ≤ (cut n)) ∧ (∀ e4 : E, ((0 ≤ e4.den ∧ e4.den < (cut n)) → (((C (e4.den))) = ((C (e4.den))))))) ∧ (((dN C n) ≤ (anN C (cut n) 0 8)) ∧ (∀ e3 : E, ((0 ≤ e3.den ∧ e3.den < (dN C n)) → (((anX C (cut n) 0 8 (e3.den)) = (dX C n e3.den)) ∧ ((anY C (cut n) 0 8 (e3.den)) = (dY C n e3.den))))))))))))) (by kernel_rfl) ?_
  intro h1 h2
  refine ⟨rfl, ⟨Int.le_refl _, fun _ => fun _ => rfl⟩, rfl, ⟨⟨rfl, rfl⟩, ⟨Int.le_refl _, fun _ => fun _ => rfl⟩⟩, ?_, ⟨Int.le_refl _, fun _ => fun _ => rfl⟩, ?_, ?_⟩
  · rfl
  · exact Int.le_refl _
  · intro e3
    intro c6
    refine ⟨?_, ?_⟩
    · rfl
    · rfl
def c_s_DrawSpanningTree (C : Int → Int) (n : Int) : Cn Try.prog := ⟨_, _, _, _, _, s_DrawSpanningTree C n⟩
theorem i_Manhattan (aX : Int) (aY : Int) (bX : Int) (bY : Int) : RunsTo Try.prog 42 [(.agg [(.int .i64 (.v fun _ => aX) (-9223372036854775808) 9223372036854775807), (.int .i64 (.v fun _ => aY) (-9223372036854775808) 9223372036854775807)]), (.agg [(.int .i64 (.v fun _ => bX) (-9223372036854775808) 9223372036854775807), (.int .i64 (.v fun _ => bY) (-9223372036854775808) 9223372036854775807)])] [] (.int .i64 (.v fun _ => mhV aX aY bX bY) (-1) 4000) [] := by
  refine RunsTo.go env Try.func42 rfl Try.call42 rfl rfl (fun _ _ => (.call (c_i_allValid (selL [aX, bX]) (selL [aY, bY]) 2) (.ite .ret (.callF (c_i_length aX aY bX bY) .ret)))) (G := ((((-9223372036854775808) ≤ aX ∧ aX ≤ 9223372036854775807) ∧ ((-9223372036854775808) ≤ aY ∧ aY ≤ 9223372036854775807)) ∧ (((-9223372036854775808) ≤ bX ∧ bX ≤ 9223372036854775807) ∧ ((-9223372036854775808) ≤ bY ∧ bY ≤ 9223372036854775807))) → (True) → (((2 : Int) = 2) ∧ ((((2 : Int) = 2) ∧ ((∀ e2 : E, ((e2.den = 0) → ((aX = (selL [aX, bX] (e2.den))) ∧ (aY = (selL [aY, bY] (e2.den)))))) ∧ (∀ e1 : E, ((e1.den = 1) → ((bX = (selL [aX, bX] (e1.den))) ∧ (bY = (selL [aY, bY] (e1.den)))))))) ∧ ((((allB (fun i => okP (selL [aX, bX] i) (selL [aY, bY] i)) 2) = false) → (((-1) : Int) = (mhV aX aY bX bY))) ∧ (((allB (fun i => okP (selL [aX, bX] i) (selL [aY, bY] i)) 2) = true) → (((((aX = aX) ∧ (((-9223372036854775808) ≤ aX ∧ aX ≤ 9223372036854775807) → ((-1000) ≤ aX ∧ aX ≤ 1000))) ∧ ((aY = aY) ∧ (((-9223372036854775808) ≤ aY ∧ aY ≤ 9223372036854775807) → ((-1000) ≤ aY ∧ aY ≤ 1000)))) ∧ (((bX = bX) ∧ (((-9223372036854775808) ≤ bX ∧ bX ≤ 9223372036854775807) → ((-1000) ≤ bX ∧ bX ≤ 1000))) ∧ ((bY = bY) ∧ (((-9223372036854775808) ≤ bY ∧ bY ≤ 9223372036854775807) → ((-1000) ≤ bY ∧ bY ≤ 1000))))) ∧ ((0 ≤ (mht aX aY bX bY) ∧ (mht aX aY bX bY) ≤ 4000) → ((mht aX aY bX bY) = (mhV aX aY bX bY))))))))) (by kernel_rfl) ?_
  intro h1 h2
  refine ⟨rfl, ?_, ?_, ?_⟩
  · refine ⟨rfl, ?_, ?_⟩
    · intro e2
      intro c3
      refine ⟨?_, ?_⟩
      · rw [show e2.den = 0 by omega]; rfl
      · rw [show e2.den = 0 by omega]; rfl
    · intro e1
      intro c4
      refine ⟨?_, ?_⟩
      · rw [show e1.den = 1 by omega]; rfl
      · rw [show e1.den = 1 by omega]; rfl
  · intro c5
    exact (mh_n (by assumption)).symm
  · intro c6
    refine ⟨?_, ?_⟩
    · refine ⟨?_, ?_, rfl, ?_⟩
      · refine ⟨?_, rfl, ?_⟩
        · refine ⟨rfl, ?_⟩
          intro c7
          have hy := mh_y (aX := aX) (aY := aY) (bX := bX) (bY := bY) (by assumption); first | omega | exact hy.1.symm
        · intro c8
          have hy := mh_y (aX := aX) (aY := aY) (bX := bX) (bY := bY) (by assumption); first | omega | exact hy.1.symm
      · refine ⟨rfl, ?_⟩
        intro c9
        have hy := mh_y (aX := aX) (aY := aY) (bX := bX) (bY := bY) (by assumption); first | omega | exact hy.1.symm
      · intro c10
        have hy := mh_y (aX := aX) (aY := aY) (bX := bX) (bY := bY) (by assumption); first | omega | exact hy.1.symm
    · intro c11
      have hy := mh_y (aX := aX) (aY := aY) (bX := bX) (bY := bY) (by assumption); first | omega | exact hy.1.symm
def c_i_Manhattan (aX : Int) (aY : Int) (bX : Int) (bY : Int) : Cn Try.prog := ⟨_, _, _, _, _, i_Manhattan aX aY bX bY⟩
theorem l_equalPairs (X : Int → Int) (Y : Int → Int) (n : Int) (V : Int → Int) (U : Int → Int) (m : Int) : RunsTo Try.prog 37 [(.sl 0 2 (.lit 0) (.v fun _ => n) 1048576), (.sl 1 2 (.lit 0) (.v fun _ => m) 1048576)] [some ⟨58, 2, true, (.sym (.v fun _ => n) fun e => [(.int .i64 (.v fun _ => (X (e.den))) (-9223372036854775808) 9223372036854775807), (.int .i64 (.v fun _ => (Y (e.den))) (-9223372036854775808) 9223372036854775807)])⟩, some ⟨58, 2, true, (.sym (.v fun _ => m) fun e => [(.int .i64 (.v fun _ => (V (e.den))) (-9223372036854775808) 9223372036854775807), (.int .i64 (.v fun _ => (U (e.den))) (-9223372036854775808) 9223372036854775807)])⟩] (.bool (.v fun _ => eqP X Y n V U m)) [some ⟨58, 2, true, (.sym (.v fun _ => n) fun e => [(.int .i64 (.v fun _ => (X (e.den))) (-9223372036854775808) 9223372036854775807), (.int .i64 (.v fun _ => (Y (e.den))) (-9223372036854775808) 9223372036854775807)])⟩, some ⟨58, 2, true, (.sym (.v fun _ => m) fun e => [(.int .i64 (.v fun _ => (V (e.den))) (-9223372036854775808) 9223372036854775807), (.int .i64 (.v fun _ => (U (e.den))) (-9223372036854775808) 9223372036854775807)])⟩] := by
  refine RunsTo.go env Try.func37 rfl Try.call37 rfl rfl (fun _ _ => (.ite .ret (.loop [] [0, 1] (Int) (fun x3 => ⟨spl 26 0 [(0, (.sl 0 2 (.lit 0) (.v fun _ => n) 1048576)), (1, (.sl 1 2 (.lit 0) (.v fun _ => m) 1048576)), (5, (.int .i64 (.v fun _ => x3) 0 1048576))], [some ⟨58, 2, true, (.sym (.v fun _ => n) fun e => [(.int .i64 (.v fun _ => (X (e.den))) (-9223372036854775808) 9223372036854775807), (.int .i64 (.v fun _ => (Y (e.den))) (-9223372036854775808) 9223372036854775807)])⟩, some ⟨58, 2, true, (.sym (.v fun _ => m) fun e => [(.int .i64 (.v fun _ => (V (e.den))) (-9223372036854775808) 9223372036854775807), (.int .i64 (.v fun _ => (U (e.den))) (-9223372036854775808) 9223372036854775807)])⟩], 2⟩) (fun x3 => (0 ≤ x3 ∧ x3 ≤ n) ∧ ∀ i, 0 ≤ i → i < x3 → (decide ((X (i)) = (V (i))) && decide ((Y (i)) = (U (i)))) = true) (fun x3 => (n - x3).toNat) fun x3 => (.ite (.need (.need (.need (.need (.ite (.out .ret) (.next [0, 1])))))) (.out .ret))))) (G := ((0 ≤ n ∧ n ≤ 1048576) ∧ (0 ≤ m ∧ m ≤ 1048576)) → ((∀ e15 : E, ((0 ≤ e15.den ∧ e15.den < n) → (((-9223372036854775808) ≤ ((X (e15.den))) ∧ ((X (e15.den))) ≤ 9223372036854775807) ∧ ((-9223372036854775808) ≤ ((Y (e15.den))) ∧ ((Y (e15.den))) ≤ 9223372036854775807)))) ∧ (∀ e14 : E, ((0 ≤ e14.den ∧ e14.den < m) → (((-9223372036854775808) ≤ ((V (e14.den))) ∧ ((V (e14.den))) ≤ 9223372036854775807) ∧ ((-9223372036854775808) ≤ ((U (e14.den))) ∧ ((U (e14.den))) ≤ 9223372036854775807))))) → (((n ≠ m) → (((eqP X Y n V U m) = false) ∧ (((n ≤ n) ∧ (∀ e2 : E, ((0 ≤ e2.den ∧ e2.den < n) → ((((X (e2.den))) = ((X (e2.den)))) ∧ (((Y (e2.den))) = ((Y (e2.den)))))))) ∧ ((m ≤ m) ∧ (∀ e1 : E, ((0 ≤ e1.den ∧ e1.den < m) → ((((V (e1.den))) = ((V (e1.den)))) ∧ (((U (e1.den))) = ((U (e1.den))))))))))) ∧ ((n = m) → ((∃ y4 : Int, (((0 ≤ y4 ∧ y4 ≤ n) ∧ ∀ i, 0 ≤ i → i < y4 → (decide ((X (i)) = (V (i))) && decide ((Y (i)) = (U (i)))) = true) ∧ (((n = n) ∧ ((m = m) ∧ ((0 : Int) = y4))) ∧ (((n ≤ n) ∧ (∀ e6 : E, ((0 ≤ e6.den ∧ e6.den < n) → ((((X (e6.den))) = ((X (e6.den)))) ∧ (((Y (e6.den))) = ((Y (e6.den)))))))) ∧ ((m ≤ m) ∧ (∀ e5 : E, ((0 ≤ e5.den ∧ e5.den < m) → ((((V (e5.den))) = ((V (e5.den)))) ∧ (((U (e5.den))) = ((U (e5.den)))))))))))) ∧ (∀ x3 : Int, (((0 ≤ x3 ∧ x3 ≤ n) ∧ ∀ i, 0 ≤ i → i < x3 → (decide ((X (i)) = (V (i))) && decide ((Y (i)) = (U (i)))) = true) → (((x3 < n) → ((((0 ≤ x3) ∧ (x3 < n))) ∧ ((x3 < n) ∧ ((((0 ≤ x3) ∧ (x3 < m))) ∧ ((x3 < m) ∧ (((((((X (x3))) ≠ ((V (x3)))) ∨ (((Y (x3))) ≠ ((U (x3)))))) → (((eqP X Y n V U m) = false) ∧ (((n ≤ n) ∧ (∀ e8 : E, ((0 ≤ e8.den ∧ e8.den < n) → ((((X (e8.den))) = ((X (e8.den)))) ∧ (((Y (e8.den))) = ((Y (e8.den)))))))) ∧ ((m ≤ m) ∧ (∀ e7 : E, ((0 ≤ e7.den ∧ e7.den < m) → ((((V (e7.den))) = ((V (e7.den)))) ∧ (((U (e7.den))) = ((U (e7.den))))))))))) ∧ ((((((X (x3))) = ((V (x3)))) ∧ (((Y (x3))) = ((U (x3)))))) → (∃ y9 : Int, (((0 ≤ y9 ∧ y9 ≤ n) ∧ ∀ i, 0 ≤ i → i < y9 → (decide ((X (i)) = (V (i))) && decide ((Y (i)) = (U (i)))) = true) ∧ ((((n = n) ∧ ((m = m) ∧ (((x3 + 1) = y9) ∧ ((1 ≤ (x3 + 1) ∧ (x3 + 1) ≤ 1048577) → (0 ≤ y9 ∧ y9 ≤ 1048576))))) ∧ (((n ≤ n) ∧ (∀ e11 : E, ((0 ≤ e11.den ∧ e11.den < n) → ((((X (e11.den))) = ((X (e11.den)))) ∧ (((Y (e11.den))) = ((Y (e11.den)))))))) ∧ ((m ≤ m) ∧ (∀ e10 : E, ((0 ≤ e10.den ∧ e10.den < m) → ((((V (e10.den))) = ((V (e10.den)))) ∧ (((U (e10.den))) = ((U (e10.den)))))))))) ∧ ((n - y9).toNat < (n - x3).toNat))))))))))) ∧ ((n ≤ x3) → (((eqP X Y n V U m) = true) ∧ (((n ≤ n) ∧ (∀ e13 : E, ((0 ≤ e13.den ∧ e13.den < n) → ((((X (e13.den))) = ((X (e13.den)))) ∧ (((Y (e13.den))) = ((Y (e13.den)))))))) ∧ ((m ≤ m) ∧ (∀ e12 : E, ((0 ≤ e12.den ∧ e12.den < m) → ((((V (e12.den))) = ((V (e12.den)))) ∧ (((U (e12.den))) = ((U (e12.den)))))))))))))))))) (by kernel_rfl) ?_
  intro h1 h2
  refine ⟨?_, ?_⟩
  · intro c16
    refine ⟨?_, ⟨Int.le_refl _, fun _ => fun _ => ⟨rfl, rfl⟩⟩, Int.le_refl _, fun _ => fun _ => ⟨rfl, rfl⟩⟩
    simp [eqP]; omega
  · intro c17
    refine ⟨?_, ?_⟩
    · refine ⟨0, ?_⟩
      try dsimp only
      refine ⟨?_, ?_, ⟨Int.le_refl _, fun _ => fun _ => ⟨rfl, rfl⟩⟩, Int.le_refl _, fun _ => fun _ => ⟨rfl, rfl⟩⟩
      · refine ⟨by omega, fun i a b => ?_⟩; first | (exfalso; omega) | (by_cases e : i = j; (subst e; assumption); exact I1.2 i a (by omega))
      · refine ⟨rfl, rfl, ?_⟩
        rfl
    · intro j
      intro I1
      refine ⟨?_, ?_⟩
      · intro c18
        refine ⟨?_, ?_, ?_, ?_, ?_, ?_⟩
        · omega
        · omega
        · omega
        · omega
        · intro c19
          refine ⟨?_, ⟨Int.le_refl _, fun _ => fun _ => ⟨rfl, rfl⟩⟩, Int.le_refl _, fun _ => fun _ => ⟨rfl, rfl⟩⟩
          have hf : (decide (X j = V j) && decide (Y j = U j)) = false := (by rw [← Bool.not_eq_true, Bool.and_eq_true, decide_eq_true_eq, decide_eq_true_eq]; omega); simp only [eqP]; rw [allB_false (q := fun i => decide (X i = V i) && decide (Y i = U i)) I1.1.1 (by omega) hf]; simp; done
        · intro c20
          refine ⟨j + 1, ?_⟩
          try dsimp only
          refine ⟨?_, ?_, ?_⟩
          · refine ⟨by omega, fun i a b => ?_⟩; by_cases e : i = j; (subst e; rw [Bool.and_eq_true, decide_eq_true_eq, decide_eq_true_eq]; omega); exact I1.2 i a (by omega)
          · refine ⟨?_, ⟨Int.le_refl _, fun _ => fun _ => ⟨rfl, rfl⟩⟩, Int.le_refl _, fun _ => fun _ => ⟨rfl, rfl⟩⟩
            refine ⟨rfl, rfl, ?_, ?_⟩
            · rfl
            · intro c21
              omega
          · omega
      · intro c22
        refine ⟨?_, ⟨Int.le_refl _, fun _ => fun _ => ⟨rfl, rfl⟩⟩, Int.le_refl _, fun _ => fun _ => ⟨rfl, rfl⟩⟩
        simp only [eqP]; rw [allB_iff.2 fun i a b => I1.2 i a (by omega)]; simp; omega
def c_l_equalPairs (X : Int → Int) (Y : Int → Int) (n : Int) (V : Int → Int) (U : Int → Int) (m : Int) : Cn Try.prog := ⟨_, _, _, _, _, l_equalPairs X Y n V U m⟩
theorem ss_y {X Y : Int → Int} {n : Int} (h : ssN X Y n ≠ 0) : listB X Y n = true ∧ ssN X Y n = stN n := by
  cases hl : listB X Y n with
  | true => exact ⟨rfl, ssN_y hl⟩
  | false => exact absurd (ssN_n hl) h
theorem mh_sp {X Y : Int → Int} {n t : Int} (hl : listB X Y n = true) (h0 : 0 ≤ t) (h1 : t < stN n) : mhV (X (spU X Y n t)) (Y (spU X Y n t)) (X (spV X Y n t)) (Y (spV X Y n t)) = mhD X Y (spU X Y n t) (spV X Y n t) := by
  have hb := (sp_bd (X := X) (Y := Y) h0 h1).1
  have hP := P4_of hl
  exact mh_of ⟨hP _ (by omega) (by omega), hP _ (by omega) (by omega)⟩
theorem mh_step {X Y : Int → Int} {n t : Int} (hl : listB X Y n = true) (h0 : 1 ≤ t) (h1 : t < stN n) : mhV (X (spU X Y n (t - 1))) (Y (spU X Y n (t - 1))) (X (spV X Y n (t - 1))) (Y (spV X Y n (t - 1))) ≤ mhV (X (spU X Y n t)) (Y (spU X Y n t)) (X (spV X Y n t)) (Y (spV X Y n t)) := by
  rw [mh_sp hl (by omega) (by omega), mh_sp hl (by omega) h1]
  have := sp_mono (X := X) (Y := Y) (n := n) (t := t - 1) (by omega) (by omega)
  rwa [show t - 1 + 1 = t by omega] at this
theorem dN_bd {C : Int → Int} {n : Int} (h : listB (dX C n) (dY C n) (dN C n) = true) : dN C n ≤ 20 := listB_n h
theorem l_FnSpanningTree (C : Int → Int) (n : Int) : RunsTo Try.prog 9 [(.sl 0 1 (.lit 0) (.v fun _ => n) 9223372036854775807)] [some ⟨5, 1, false, (.sym (.v fun _ => n) fun e => [(.int .u8 (.v fun _ => (C (e.den))) 0 255)])⟩] (.bool (.lit true)) [none] := by
  refine RunsTo.go env Try.func9 rfl Try.call9 rfl rfl (fun _ _ => (.ite .ret (.callF (c_s_DrawSpanningTree C n) (.callF (c_i_SpanningTree (dX C n) (dY C n) (dN C n)) (.callF (c_s_SpanningTree (dX C n) (dY C n) (dN C n)) (.call (c_l_equalPairs (spU (dX C n) (dY C n) (dN C n)) (spV (dX C n) (dY C n) (dN C n)) (ssN (dX C n) (dY C n) (dN C n)) (spU (dX C n) (dY C n) (dN C n)) (spV (dX C n) (dY C n) (dN C n)) (ssN (dX C n) (dY C n) (dN C n))) (.ite (.callF (c_s_SpanningTree (dX C n) (dY C n) (dN C n)) (.call (c_l_equalPairs (spU (dX C n) (dY C n) (dN C n)) (spV (dX C n) (dY C n) (dN C n)) (ssN (dX C n) (dY C n) (dN C n)) (spU (dX C n) (dY C n) (dN C n)) (spV (dX C n) (dY C n) (dN C n)) (ssN (dX C n) (dY C n) (dN C n))) .ret)) (.ite (.callF (c_s_SpanningTree (dX C n) (dY C n) (dN C n)) (.call (c_l_equalPairs (spU (dX C n) (dY C n) (dN C n)) (spV (dX C n) (dY C n) (dN C n)) (ssN (dX C n) (dY C n) (dN C n)) (spU (dX C n) (dY C n) (dN C n)) (spV (dX C n) (dY C n) (dN C n)) (ssN (dX C n) (dY C n) (dN C n))) .ret)) (.loop [] [0, 1, 2] (Int) (fun x12 => ⟨spl 81 0 [(3, (.sl 1 2 (.lit 0) (.v fun _ => dN C n) 64)), (4, (.sl 2 2 (.lit 0) (.v fun _ => ssN (dX C n) (dY C n) (dN C n)) 1048576)), (5, (.int .i64 (.v fun _ => x12) 1 1048576))], [some ⟨5, 1, false, (.sym (.v fun _ => cut n) fun e => [(.int .u8 (.v fun _ => ((C (e.den)))) 0 255)])⟩, some ⟨50, 2, true, (.sym (.v fun _ => (dN C n)) fun e => [(.int .i64 (.v fun _ => ((dX C n (((e.den)))))) (-9223372036854775808) 9223372036854775807), (.int .i64 (.v fun _ => ((dY C n (((e.den)))))) (-9223372036854775808) 9223372036854775807)])⟩, some ⟨58, 2, true, (.sym (.v fun _ => (ssN (dX C n) (dY C n) (dN C n))) fun e => [(.int .i64 (.v fun _ => (spU (dX C n) (dY C n) (dN C n) ((e.den)))) (-9223372036854775808) 9223372036854775807), (.int .i64 (.v fun _ => (spV (dX C n) (dY C n) (dN C n) ((e.den)))) (-9223372036854775808) 9223372036854775807)])⟩], 1⟩) (fun x12 => 1 ≤ x12 ∧ x12 ≤ ssN (dX C n) (dY C n) (dN C n) ∧ 0 < ssN (dX C n) (dY C n) (dN C n)) (fun x12 => (ssN (dX C n) (dY C n) (dN C n) - x12).toNat) fun x12 => (.ite (.need (.need (.need (.need (.need (.need (.need (.need (.call (c_i_Manhattan (((dX C n ((((spU (dX C n) (dY C n) (dN C n) ((x12))))))))) (((dY C n ((((spU (dX C n) (dY C n) (dN C n) ((x12))))))))) (((dX C n ((((spV (dX C n) (dY C n) (dN C n) ((x12))))))))) (((dY C n ((((spV (dX C n) (dY C n) (dN C n) ((x12)))))))))) (.need (.need (.need (.need (.need (.need (.need (.need (.callF (c_i_Manhattan (((dX C n ((((spU (dX C n) (dY C n) (dN C n) ((x12 - 1))))))))) (((dY C n ((((spU (dX C n) (dY C n) (dN C n) ((x12 - 1))))))))) (((dX C n ((((spV (dX C n) (dY C n) (dN C n) ((x12 - 1))))))))) (((dY C n ((((spV (dX C n) (dY C n) (dN C n) ((x12 - 1)))))))))) (.ite (.out .ret) (.next [0, 1, 2])))))))))))))))))))) (.out (.ite (.call (c_i_CheckSpanning (dX C n) (dY C n) (dN C n) (spU (dX C n) (dY C n) (dN C n)) (spV (dX C n) (dY C n) (dN C n)) (ssN (dX C n) (dY C n) (dN C n))) .ret) .ret)))))))))))) (G := (0 ≤ n ∧ n ≤ 9223372036854775807) → (∀ e23 : E, ((0 ≤ e23.den ∧ e23.den < n) → (0 ≤ ((C (e23.den))) ∧ ((C (e23.den))) ≤ 255))) → ((n ≤ 1048576) → ((n = n) ∧ (((n ≤ n) ∧ (∀ e1 : E, ((0 ≤ e1.den ∧ e1.den < n) → (((C (e1.den))) = ((C (e1.den))))))) ∧ ((0 ≤ (dN C n) ∧ (dN C n) ≤ 64) → (((dN C n) = (dN C n)) ∧ ((((dN C n) ≤ (dN C n)) ∧ (∀ e2 : E, ((0 ≤ e2.den ∧ e2.den < (dN C n)) → (((dX C n (e2.den)) = (dX C n ((e2.den)))) ∧ ((dY C n (e2.den)) = (dY C n ((e2.den)))))))) ∧ ((0 ≤ (ssN (dX C n) (dY C n) (dN C n)) ∧ (ssN (dX C n) (dY C n) (dN C n)) ≤ 1048576) → (((dN C n) = (dN C n)) ∧ ((((dN C n) ≤ (dN C n)) ∧ (∀ e3 : E, ((0 ≤ e3.den ∧ e3.den < (dN C n)) → (((dX C n ((e3.den))) = (((dX C n (((e3.den))))))) ∧ ((dY C n ((e3.den))) = (((dY C n (((e3.den))))))))))) ∧ ((0 ≤ (ssN (dX C n) (dY C n) (dN C n)) ∧ (ssN (dX C n) (dY C n) (dN C n)) ≤ 20) → ((((ssN (dX C n) (dY C n) (dN C n)) = (ssN (dX C n) (dY C n) (dN C n))) ∧ ((ssN (dX C n) (dY C n) (dN C n)) = (ssN (dX C n) (dY C n) (dN C n)))) ∧ (((((ssN (dX C n) (dY C n) (dN C n)) ≤ (ssN (dX C n) (dY C n) (dN C n))) ∧ (∀ e5 : E, ((0 ≤ e5.den ∧ e5.den < (ssN (dX C n) (dY C n) (dN C n))) → (((spU (dX C n) (dY C n) (dN C n) (e5.den)) = (spU (dX C n) (dY C n) (dN C n) ((e5.den)))) ∧ ((spV (dX C n) (dY C n) (dN C n) (e5.den)) = (spV (dX C n) (dY C n) (dN C n) ((e5.den)))))))) ∧ (((ssN (dX C n) (dY C n) (dN C n)) ≤ (ssN (dX C n) (dY C n) (dN C n))) ∧ (∀ e4 : E, ((0 ≤ e4.den ∧ e4.den < (ssN (dX C n) (dY C n) (dN C n))) → (((spU (dX C n) (dY C n) (dN C n) (e4.den)) = (spU (dX C n) (dY C n) (dN C n) ((e4.den)))) ∧ ((spV (dX C n) (dY C n) (dN C n) (e4.den)) = (spV (dX C n) (dY C n) (dN C n) ((e4.den))))))))) ∧ ((((eqP (spU (dX C n) (dY C n) (dN C n)) (spV (dX C n) (dY C n) (dN C n)) (ssN (dX C n) (dY C n) (dN C n)) (spU (dX C n) (dY C n) (dN C n)) (spV (dX C n) (dY C n) (dN C n)) (ssN (dX C n) (dY C n) (dN C n))) = false) → (((dN C n) = (dN C n)) ∧ ((((dN C n) ≤ (dN C n)) ∧ (∀ e6 : E, ((0 ≤ e6.den ∧ e6.den < (dN C n)) → (((((dX C n (((e6.den)))))) = ((((dX C n ((((e6.den))))))))) ∧ ((((dY C n (((e6.den)))))) = ((((dY C n ((((e6.den))))))))))))) ∧ ((0 ≤ (ssN (dX C n) (dY C n) (dN C n)) ∧ (ssN (dX C n) (dY C n) (dN C n)) ≤ 20) → ((((ssN (dX C n) (dY C n) (dN C n)) = (ssN (dX C n) (dY C n) (dN C n))) ∧ ((ssN (dX C n) (dY C n) (dN C n)) = (ssN (dX C n) (dY C n) (dN C n)))) ∧ (((((ssN (dX C n) (dY C n) (dN C n)) ≤ (ssN (dX C n) (dY C n) (dN C n))) ∧ (∀ e8 : E, ((0 ≤ e8.den ∧ e8.den < (ssN (dX C n) (dY C n) (dN C n))) → (((spU (dX C n) (dY C n) (dN C n) ((e8.den))) = (((spU (dX C n) (dY C n) (dN C n) (((e8.den))))))) ∧ ((spV (dX C n) (dY C n) (dN C n) ((e8.den))) = (((spV (dX C n) (dY C n) (dN C n) (((e8.den))))))))))) ∧ (((ssN (dX C n) (dY C n) (dN C n)) ≤ (ssN (dX C n) (dY C n) (dN C n))) ∧ (∀ e7 : E, ((0 ≤ e7.den ∧ e7.den < (ssN (dX C n) (dY C n) (dN C n))) → (((spU (dX C n) (dY C n) (dN C n) (e7.den)) = (spU (dX C n) (dY C n) (dN C n) ((e7.den)))) ∧ ((spV (dX C n) (dY C n) (dN C n) (e7.den)) = (spV (dX C n) (dY C n) (dN C n) ((e7.den))))))))) ∧ ((eqP (spU (dX C n) (dY C n) (dN C n)) (spV (dX C n) (dY C n) (dN C n)) (ssN (dX C n) (dY C n) (dN C n)) (spU (dX C n) (dY C n) (dN C n)) (spV (dX C n) (dY C n) (dN C n)) (ssN (dX C n) (dY C n) (dN C n))) = true))))))) ∧ (((eqP (spU (dX C n) (dY C n) (dN C n)) (spV (dX C n) (dY C n) (dN C n)) (ssN (dX C n) (dY C n) (dN C n)) (spU (dX C n) (dY C n) (dN C n)) (spV (dX C n) (dY C n) (dN C n)) (ssN (dX C n) (dY C n) (dN C n))) = true) → ((((ssN (dX C n) (dY C n) (dN C n)) = 0) → (((dN C n) = (dN C n)) ∧ ((((dN C n) ≤ (dN C n)) ∧ (∀ e9 : E, ((0 ≤ e9.den ∧ e9.den < (dN C n)) → (((((dX C n (((e9.den)))))) = ((((dX C n ((((e9.den))))))))) ∧ ((((dY C n (((e9.den)))))) = ((((dY C n ((((e9.den))))))))))))) ∧ ((0 ≤ (ssN (dX C n) (dY C n) (dN C n)) ∧ (ssN (dX C n) (dY C n) (dN C n)) ≤ 20) → ((((ssN (dX C n) (dY C n) (dN C n)) = (ssN (dX C n) (dY C n) (dN C n))) ∧ ((ssN (dX C n) (dY C n) (dN C n)) = (ssN (dX C n) (dY C n) (dN C n)))) ∧ (((((ssN (dX C n) (dY C n) (dN C n)) ≤ (ssN (dX C n) (dY C n) (dN C n))) ∧ (∀ e11 : E, ((0 ≤ e11.den ∧ e11.den < (ssN (dX C n) (dY C n) (dN C n))) → (((spU (dX C n) (dY C n) (dN C n) ((e11.den))) = (((spU (dX C n) (dY C n) (dN C n) (((e11.den))))))) ∧ ((spV (dX C n) (dY C n) (dN C n) ((e11.den))) = (((spV (dX C n) (dY C n) (dN C n) (((e11.den))))))))))) ∧ (((ssN (dX C n) (dY C n) (dN C n)) ≤ (ssN (dX C n) (dY C n) (dN C n))) ∧ (∀ e10 : E, ((0 ≤ e10.den ∧ e10.den < (ssN (dX C n) (dY C n) (dN C n))) → (((spU (dX C n) (dY C n) (dN C n) (e10.den)) = (spU (dX C n) (dY C n) (dN C n) ((e10.den)))) ∧ ((spV (dX C n) (dY C n) (dN C n) (e10.den)) = (spV (dX C n) (dY C n) (dN C n) ((e10.den))))))))) ∧ ((eqP (spU (dX C n) (dY C n) (dN C n)) (spV (dX C n) (dY C n) (dN C n)) (ssN (dX C n) (dY C n) (dN C n)) (spU (dX C n) (dY C n) (dN C n)) (spV (dX C n) (dY C n) (dN C n)) (ssN (dX C n) (dY C n) (dN C n))) = true))))))) ∧ (((ssN (dX C n) (dY C n) (dN C n)) ≠ 0) → ((∃ y13 : Int, ((1 ≤ y13 ∧ y13 ≤ ssN (dX C n) (dY C n) (dN C n) ∧ 0 < ssN (dX C n) (dY C n) (dN C n)) ∧ ((((dN C n) = (dN C n)) ∧ (((ssN (dX C n) (dY C n) (dN C n)) = (ssN (dX C n) (dY C n) (dN C n))) ∧ ((1 : Int) = y13))) ∧ ((((cut n) ≤ (cut n)) ∧ (∀ e16 : E, ((0 ≤ e16.den ∧ e16.den < (cut n)) → (((C (e16.den))) = ((C (e16.den))))))) ∧ ((((dN C n) ≤ (dN C n)) ∧ (∀ e15 : E, ((0 ≤ e15.den ∧ e15.den < (dN C n)) → (((((dX C n (((e15.den)))))) = (((dX C n (((e15.den))))))) ∧ ((((dY C n (((e15.den)))))) = (((dY C n (((e15.den))))))))))) ∧ (((ssN (dX C n) (dY C n) (dN C n)) ≤ (ssN (dX C n) (dY C n) (dN C n))) ∧ (∀ e14 : E, ((0 ≤ e14.den ∧ e14.den < (ssN (dX C n) (dY C n) (dN C n))) → (((spU (dX C n) (dY C n) (dN C n) ((e14.den))) = (spU (dX C n) (dY C n) (dN C n) ((e14.den)))) ∧ ((spV (dX C n) (dY C n) (dN C n) ((e14.den))) = (spV (dX C n) (dY C n) (dN C n) ((e14.den))))))))))))) ∧ (∀ x12 : Int, ((1 ≤ x12 ∧ x12 ≤ ssN (dX C n) (dY C n) (dN C n) ∧ 0 < ssN (dX C n) (dY C n) (dN C n)) → (((x12 < (ssN (dX C n) (dY C n) (dN C n))) → ((((0 ≤ x12) ∧ (x12 < (ssN (dX C n) (dY C n) (dN C n))))) ∧ ((x12 < (ssN (dX C n) (dY C n) (dN C n))) ∧ ((((0 ≤ (spU (dX C n) (dY C n) (dN C n) ((x12)))) ∧ ((spU (dX C n) (dY C n) (dN C n) ((x12))) < (dN C n)))) ∧ (((spU (dX C n) (dY C n) (dN C n) ((x12))) < (dN C n)) ∧ ((((0 ≤ x12) ∧ (x12 < (ssN (dX C n) (dY C n) (dN C n))))) ∧ ((x12 < (ssN (dX C n) (dY C n) (dN C n))) ∧ ((((0 ≤ (spV (dX C n) (dY C n) (dN C n) ((x12)))) ∧ ((spV (dX C n) (dY C n) (dN C n) ((x12))) < (dN C n)))) ∧ (((spV (dX C n) (dY C n) (dN C n) ((x12))) < (dN C n)) ∧ (((((((dX C n ((((spU (dX C n) (dY C n) (dN C n) ((x12))))))))) = ((((dX C n ((((spU (dX C n) (dY C n) (dN C n) ((x12))))))))))) ∧ ((((dY C n ((((spU (dX C n) (dY C n) (dN C n) ((x12))))))))) = ((((dY C n ((((spU (dX C n) (dY C n) (dN C n) ((x12)))))))))))) ∧ (((((dX C n ((((spV (dX C n) (dY C n) (dN C n) ((x12))))))))) = ((((dX C n ((((spV (dX C n) (dY C n) (dN C n) ((x12))))))))))) ∧ ((((dY C n ((((spV (dX C n) (dY C n) (dN C n) ((x12))))))))) = ((((dY C n ((((spV (dX C n) (dY C n) (dN C n) ((x12))))))))))))) ∧ ((((0 ≤ (x12 - 1)) ∧ ((x12 - 1) < (ssN (dX C n) (dY C n) (dN C n))))) ∧ (((x12 - 1) < (ssN (dX C n) (dY C n) (dN C n))) ∧ ((((0 ≤ (spU (dX C n) (dY C n) (dN C n) ((x12 - 1)))) ∧ ((spU (dX C n) (dY C n) (dN C n) ((x12 - 1))) < (dN C n)))) ∧ (((spU (dX C n) (dY C n) (dN C n) ((x12 - 1))) < (dN C n)) ∧ ((((0 ≤ (x12 - 1)) ∧ ((x12 - 1) < (ssN (dX C n) (dY C n) (dN C n))))) ∧ (((x12 - 1) < (ssN (dX C n) (dY C n) (dN C n))) ∧ ((((0 ≤ (spV (dX C n) (dY C n) (dN C n) ((x12 - 1)))) ∧ ((spV (dX C n) (dY C n) (dN C n) ((x12 - 1))) < (dN C n)))) ∧ (((spV (dX C n) (dY C n) (dN C n) ((x12 - 1))) < (dN C n)) ∧ (((((((dX C n ((((spU (dX C n) (dY C n) (dN C n) ((x12 - 1))))))))) = ((((dX C n ((((spU (dX C n) (dY C n) (dN C n) ((x12 - 1))))))))))) ∧ ((((dY C n ((((spU (dX C n) (dY C n) (dN C n) ((x12 - 1))))))))) = ((((dY C n ((((spU (dX C n) (dY C n) (dN C n) ((x12 - 1)))))))))))) ∧ (((((dX C n ((((spV (dX C n) (dY C n) (dN C n) ((x12 - 1))))))))) = ((((dX C n ((((spV (dX C n) (dY C n) (dN C n) ((x12 - 1))))))))))) ∧ ((((dY C n ((((spV (dX C n) (dY C n) (dN C n) ((x12 - 1))))))))) = ((((dY C n ((((spV (dX C n) (dY C n) (dN C n) ((x12 - 1))))))))))))) ∧ (((-1) ≤ (mhV (((dX C n ((((spU (dX C n) (dY C n) (dN C n) ((x12 - 1))))))))) (((dY C n ((((spU (dX C n) (dY C n) (dN C n) ((x12 - 1))))))))) (((dX C n ((((spV (dX C n) (dY C n) (dN C n) ((x12 - 1))))))))) (((dY C n ((((spV (dX C n) (dY C n) (dN C n) ((x12 - 1)))))))))) ∧ (mhV (((dX C n ((((spU (dX C n) (dY C n) (dN C n) ((x12 - 1))))))))) (((dY C n ((((spU (dX C n) (dY C n) (dN C n) ((x12 - 1))))))))) (((dX C n ((((spV (dX C n) (dY C n) (dN C n) ((x12 - 1))))))))) (((dY C n ((((spV (dX C n) (dY C n) (dN C n) ((x12 - 1)))))))))) ≤ 4000) → ((((mhV (((dX C n ((((spU (dX C n) (dY C n) (dN C n) ((x12))))))))) (((dY C n ((((spU (dX C n) (dY C n) (dN C n) ((x12))))))))) (((dX C n ((((spV (dX C n) (dY C n) (dN C n) ((x12))))))))) (((dY C n ((((spV (dX C n) (dY C n) (dN C n) ((x12)))))))))) < (mhV (((dX C n ((((spU (dX C n) (dY C n) (dN C n) ((x12 - 1))))))))) (((dY C n ((((spU (dX C n) (dY C n) (dN C n) ((x12 - 1))))))))) (((dX C n ((((spV (dX C n) (dY C n) (dN C n) ((x12 - 1))))))))) (((dY C n ((((spV (dX C n) (dY C n) (dN C n) ((x12 - 1))))))))))) → (False)) ∧ (((mhV (((dX C n ((((spU (dX C n) (dY C n) (dN C n) ((x12 - 1))))))))) (((dY C n ((((spU (dX C n) (dY C n) (dN C n) ((x12 - 1))))))))) (((dX C n ((((spV (dX C n) (dY C n) (dN C n) ((x12 - 1))))))))) (((dY C n ((((spV (dX C n) (dY C n) (dN C n) ((x12 - 1)))))))))) ≤ (mhV (((dX C n ((((spU (dX C n) (dY C n) (dN C n) ((x12))))))))) (((dY C n ((((spU (dX C n) (dY C n) (dN C n) ((x12))))))))) (((dX C n ((((spV (dX C n) (dY C n) (dN C n) ((x12))))))))) (((dY C n ((((spV (dX C n) (dY C n) (dN C n) ((x12))))))))))) → (∃ y17 : Int, ((1 ≤ y17 ∧ y17 ≤ ssN (dX C n) (dY C n) (dN C n) ∧ 0 < ssN (dX C n) (dY C n) (dN C n)) ∧ (((((dN C n) = (dN C n)) ∧ (((ssN (dX C n) (dY C n) (dN C n)) = (ssN (dX C n) (dY C n) (dN C n))) ∧ (((x12 + 1) = y17) ∧ ((2 ≤ (x12 + 1) ∧ (x12 + 1) ≤ 1048577) → (1 ≤ y17 ∧ y17 ≤ 1048576))))) ∧ ((((cut n) ≤ (cut n)) ∧ (∀ e20 : E, ((0 ≤ e20.den ∧ e20.den < (cut n)) → (((C (e20.den))) = ((C (e20.den))))))) ∧ ((((dN C n) ≤ (dN C n)) ∧ (∀ e19 : E, ((0 ≤ e19.den ∧ e19.den < (dN C n)) → (((((dX C n (((e19.den)))))) = (((dX C n (((e19.den))))))) ∧ ((((dY C n (((e19.den)))))) = (((dY C n (((e19.den))))))))))) ∧ (((ssN (dX C n) (dY C n) (dN C n)) ≤ (ssN (dX C n) (dY C n) (dN C n))) ∧ (∀ e18 : E, ((0 ≤ e18.den ∧ e18.den < (ssN (dX C n) (dY C n) (dN C n))) → (((spU (dX C n) (dY C n) (dN C n) ((e18.den))) = (spU (dX C n) (dY C n) (dN C n) ((e18.den)))) ∧ ((spV (dX C n) (dY C n) (dN C n) ((e18.den))) = (spV (dX C n) (dY C n) (dN C n) ((e18.den))))))))))) ∧ ((ssN (dX C n) (dY C n) (dN C n) - y17).toNat < (ssN (dX C n) (dY C n) (dN C n) - x12).toNat)))))))))))))))))))))))))) ∧ (((ssN (dX C n) (dY C n) (dN C n)) ≤ x12) → ((((ssN (dX C n) (dY C n) (dN C n)) = ((dN C n) - 1)) → ((((dN C n) = (dN C n)) ∧ ((ssN (dX C n) (dY C n) (dN C n)) = (ssN (dX C n) (dY C n) (dN C n)))) ∧ (((((dN C n) ≤ (dN C n)) ∧ (∀ e22 : E, ((0 ≤ e22.den ∧ e22.den < (dN C n)) → (((((dX C n (((e22.den)))))) = ((((dX C n ((((e22.den))))))))) ∧ ((((dY C n (((e22.den)))))) = ((((dY C n ((((e22.den))))))))))))) ∧ (((ssN (dX C n) (dY C n) (dN C n)) ≤ (ssN (dX C n) (dY C n) (dN C n))) ∧ (∀ e21 : E, ((0 ≤ e21.den ∧ e21.den < (ssN (dX C n) (dY C n) (dN C n))) → (((spU (dX C n) (dY C n) (dN C n) ((e21.den))) = (((spU (dX C n) (dY C n) (dN C n) (((e21.den))))))) ∧ ((spV (dX C n) (dY C n) (dN C n) ((e21.den))) = (((spV (dX C n) (dY C n) (dN C n) (((e21.den)))))))))))) ∧ ((spB (dX C n) (dY C n) (dN C n) (spU (dX C n) (dY C n) (dN C n)) (spV (dX C n) (dY C n) (dN C n)) (ssN (dX C n) (dY C n) (dN C n))) = true)))) ∧ (((ssN (dX C n) (dY C n) (dN C n)) ≠ ((dN C n) - 1)) → (False))))))))))))))))))))))))) (by kernel_rfl) ?_
  intro h1 h2
  intro c24
  refine ⟨rfl, ⟨Int.le_refl _, fun _ => fun _ => rfl⟩, ?_⟩
  intro c25
  refine ⟨rfl, ⟨Int.le_refl _, fun _ => fun _ => ⟨rfl, rfl⟩⟩, ?_⟩
  intro c26
  refine ⟨rfl, ⟨Int.le_refl _, fun _ => fun _ => ⟨rfl, rfl⟩⟩, ?_⟩
  intro c27
  refine ⟨⟨rfl, rfl⟩, ⟨⟨Int.le_refl _, fun _ => fun _ => ⟨rfl, rfl⟩⟩, ⟨Int.le_refl _, fun _ => fun _ => ⟨rfl, rfl⟩⟩⟩, ?_, ?_⟩
  · intro c28
    refine ⟨rfl, ⟨Int.le_refl _, fun _ => fun _ => ⟨rfl, rfl⟩⟩, ?_⟩
    intro c29
    refine ⟨⟨rfl, rfl⟩, ⟨⟨Int.le_refl _, fun _ => fun _ => ⟨rfl, rfl⟩⟩, ⟨Int.le_refl _, fun _ => fun _ => ⟨rfl, rfl⟩⟩⟩, ?_⟩
    exact eqP_refl _ _ _
  · intro c30
    refine ⟨?_, ?_⟩
    · intro c31
      refine ⟨rfl, ⟨Int.le_refl _, fun _ => fun _ => ⟨rfl, rfl⟩⟩, ?_⟩
      intro c32
      refine ⟨⟨rfl, rfl⟩, ⟨⟨Int.le_refl _, fun _ => fun _ => ⟨rfl, rfl⟩⟩, ⟨Int.le_refl _, fun _ => fun _ => ⟨rfl, rfl⟩⟩⟩, ?_⟩
      omega
    · intro c33
      refine ⟨?_, ?_⟩
      · refine ⟨1, ?_⟩
        try dsimp only
        refine ⟨?_, ?_, ⟨Int.le_refl _, fun _ => fun _ => rfl⟩, ⟨Int.le_refl _, fun _ => fun _ => ⟨rfl, rfl⟩⟩, Int.le_refl _, fun _ => fun _ => ⟨rfl, rfl⟩⟩
        · omega
        · refine ⟨rfl, rfl, ?_⟩
          rfl
      · intro j
        intro I1
        refine ⟨?_, ?_⟩
        · intro c34
          refine ⟨?_, ?_, ?_, ?_, ?_, ?_, ?_, ?_, ⟨⟨rfl, rfl⟩, ⟨rfl, rfl⟩⟩, ?_, ?_, ?_, ?_, ?_, ?_, ?_, ?_, ⟨⟨rfl, rfl⟩, ⟨rfl, rfl⟩⟩, ?_⟩
          · omega
          · omega
          · have hy := ss_y (X := dX C n) (Y := dY C n) (n := dN C n) (by omega); have hN := stN_nn (dN C n); first | omega | (have hb := (sp_bd (X := dX C n) (Y := dY C n) (n := dN C n) (t := j) (by omega) (by omega)).1; omega) | (have hb := (sp_bd (X := dX C n) (Y := dY C n) (n := dN C n) (t := j - 1) (by omega) (by omega)).1; omega) | (have hm := mh_step (X := dX C n) (Y := dY C n) (n := dN C n) (t := j) hy.1 (by omega) (by omega); omega) | (have hle := stN_le (n := dN C n) (by unfold stN at hy; have h3 := hy.2; split at h3 <;> omega); first | omega | (rw [hy.2, sp_ok hy.1 (by omega)]; first | rfl | (simp; omega) | done))
          · have hy := ss_y (X := dX C n) (Y := dY C n) (n := dN C n) (by omega); have hN := stN_nn (dN C n); first | omega | (have hb := (sp_bd (X := dX C n) (Y := dY C n) (n := dN C n) (t := j) (by omega) (by omega)).1; omega) | (have hb := (sp_bd (X := dX C n) (Y := dY C n) (n := dN C n) (t := j - 1) (by omega) (by omega)).1; omega) | (have hm := mh_step (X := dX C n) (Y := dY C n) (n := dN C n) (t := j) hy.1 (by omega) (by omega); omega) | (have hle := stN_le (n := dN C n) (by unfold stN at hy; have h3 := hy.2; split at h3 <;> omega); first | omega | (rw [hy.2, sp_ok hy.1 (by omega)]; first | rfl | (simp; omega) | done))
          · omega
          · omega
          · have hy := ss_y (X := dX C n) (Y := dY C n) (n := dN C n) (by omega); have hN := stN_nn (dN C n); first | omega | (have hb := (sp_bd (X := dX C n) (Y := dY C n) (n := dN C n) (t := j) (by omega) (by omega)).1; omega) | (have hb := (sp_bd (X := dX C n) (Y := dY C n) (n := dN C n) (t := j - 1) (by omega) (by omega)).1; omega) | (have hm := mh_step (X := dX C n) (Y := dY C n) (n := dN C n) (t := j) hy.1 (by omega) (by omega); omega) | (have hle := stN_le (n := dN C n) (by unfold stN at hy; have h3 := hy.2; split at h3 <;> omega); first | omega | (rw [hy.2, sp_ok hy.1 (by omega)]; first | rfl | (simp; omega) | done))
          · have hy := ss_y (X := dX C n) (Y := dY C n) (n := dN C n) (by omega); have hN := stN_nn (dN C n); first | omega | (have hb := (sp_bd (X := dX C n) (Y := dY C n) (n := dN C n) (t := j) (by omega) (by omega)).1; omega) | (have hb := (sp_bd (X := dX C n) (Y := dY C n) (n := dN C n) (t := j - 1) (by omega) (by omega)).1; omega) | (have hm := mh_step (X := dX C n) (Y := dY C n) (n := dN C n) (t := j) hy.1 (by omega) (by omega); omega) | (have hle := stN_le (n := dN C n) (by unfold stN at hy; have h3 := hy.2; split at h3 <;> omega); first | omega | (rw [hy.2, sp_ok hy.1 (by omega)]; first | rfl | (simp; omega) | done))
          · omega
          · omega
          · have hy := ss_y (X := dX C n) (Y := dY C n) (n := dN C n) (by omega); have hN := stN_nn (dN C n); first | omega | (have hb := (sp_bd (X := dX C n) (Y := dY C n) (n := dN C n) (t := j) (by omega) (by omega)).1; omega) | (have hb := (sp_bd (X := dX C n) (Y := dY C n) (n := dN C n) (t := j - 1) (by omega) (by omega)).1; omega) | (have hm := mh_step (X := dX C n) (Y := dY C n) (n := dN C n) (t := j) hy.1 (by omega) (by omega); omega) | (have hle := stN_le (n := dN C n) (by unfold stN at hy; have h3 := hy.2; split at h3 <;> omega); first | omega | (rw [hy.2, sp_ok hy.1 (by omega)]; first | rfl | (simp; omega) | done))
          · have hy := ss_y (X := dX C n) (Y := dY C n) (n := dN C n) (by omega); have hN := stN_nn (dN C n); first | omega | (have hb := (sp_bd (X := dX C n) (Y := dY C n) (n := dN C n) (t := j) (by omega) (by omega)).1; omega) | (have hb := (sp_bd (X := dX C n) (Y := dY C n) (n := dN C n) (t := j - 1) (by omega) (by omega)).1; omega) | (have hm := mh_step (X := dX C n) (Y := dY C n) (n := dN C n) (t := j) hy.1 (by omega) (by omega); omega) | (have hle := stN_le (n := dN C n) (by unfold stN at hy; have h3 := hy.2; split at h3 <;> omega); first | omega | (rw [hy.2, sp_ok hy.1 (by omega)]; first | rfl | (simp; omega) | done))
          · omega
          · omega
          · have hy := ss_y (X := dX C n) (Y := dY C n) (n := dN C n) (by omega); have hN := stN_nn (dN C n); first | omega | (have hb := (sp_bd (X := dX C n) (Y := dY C n) (n := dN C n) (t := j) (by omega) (by omega)).1; omega) | (have hb := (sp_bd (X := dX C n) (Y := dY C n) (n := dN C n) (t := j - 1) (by omega) (by omega)).1; omega) | (have hm := mh_step (X := dX C n) (Y := dY C n) (n := dN C n) (t := j) hy.1 (by omega) (by omega); omega) | (have hle := stN_le (n := dN C n) (by unfold stN at hy; have h3 := hy.2; split at h3 <;> omega); first | omega | (rw [hy.2, sp_ok hy.1 (by omega)]; first | rfl | (simp; omega) | done))
          · have hy := ss_y (X := dX C n) (Y := dY C n) (n := dN C n) (by omega); have hN := stN_nn (dN C n); first | omega | (have hb := (sp_bd (X := dX C n) (Y := dY C n) (n := dN C n) (t := j) (by omega) (by omega)).1; omega) | (have hb := (sp_bd (X := dX C n) (Y := dY C n) (n := dN C n) (t := j - 1) (by omega) (by omega)).1; omega) | (have hm := mh_step (X := dX C n) (Y := dY C n) (n := dN C n) (t := j) hy.1 (by omega) (by omega); omega) | (have hle := stN_le (n := dN C n) (by unfold stN at hy; have h3 := hy.2; split at h3 <;> omega); first | omega | (rw [hy.2, sp_ok hy.1 (by omega)]; first | rfl | (simp; omega) | done))
          · intro c35
            refine ⟨?_, ?_⟩
            · intro c36
              have hy := ss_y (X := dX C n) (Y := dY C n) (n := dN C n) (by omega); have hN := stN_nn (dN C n); first | omega | (have hb := (sp_bd (X := dX C n) (Y := dY C n) (n := dN C n) (t := j) (by omega) (by omega)).1; omega) | (have hb := (sp_bd (X := dX C n) (Y := dY C n) (n := dN C n) (t := j - 1) (by omega) (by omega)).1; omega) | (have hm := mh_step (X := dX C n) (Y := dY C n) (n := dN C n) (t := j) hy.1 (by omega) (by omega); omega) | (have hle := stN_le (n := dN C n) (by unfold stN at hy; have h3 := hy.2; split at h3 <;> omega); first | omega | (rw [hy.2, sp_ok hy.1 (by omega)]; first | rfl | (simp; omega) | done))
            · intro c37
              refine ⟨j + 1, ?_⟩
              try dsimp only
              refine ⟨?_, ?_, ?_⟩
              · omega
              · refine ⟨?_, ⟨Int.le_refl _, fun _ => fun _ => rfl⟩, ⟨Int.le_refl _, fun _ => fun _ => ⟨rfl, rfl⟩⟩, Int.le_refl _, fun _ => fun _ => ⟨rfl, rfl⟩⟩
                refine ⟨rfl, rfl, ?_, ?_⟩
                · rfl
                · intro c38
                  omega
              · omega
        · intro c39
          refine ⟨?_, ?_⟩
          · intro c40
            refine ⟨⟨rfl, rfl⟩, ⟨⟨Int.le_refl _, fun _ => fun _ => ⟨rfl, rfl⟩⟩, ⟨Int.le_refl _, fun _ => fun _ => ⟨rfl, rfl⟩⟩⟩, ?_⟩
            have hy := ss_y (X := dX C n) (Y := dY C n) (n := dN C n) (by omega); have hN := stN_nn (dN C n); first | omega | (have hb := (sp_bd (X := dX C n) (Y := dY C n) (n := dN C n) (t := j) (by omega) (by omega)).1; omega) | (have hb := (sp_bd (X := dX C n) (Y := dY C n) (n := dN C n) (t := j - 1) (by omega) (by omega)).1; omega) | (have hm := mh_step (X := dX C n) (Y := dY C n) (n := dN C n) (t := j) hy.1 (by omega) (by omega); omega) | (have hle := stN_le (n := dN C n) (by unfold stN at hy; have h3 := hy.2; split at h3 <;> omega); first | omega | (rw [hy.2, sp_ok hy.1 (by omega)]; first | rfl | (simp; omega) | done))
          · intro c41
            have hy := ss_y (X := dX C n) (Y := dY C n) (n := dN C n) (by omega); have hN := stN_nn (dN C n); first | omega | (have hb := (sp_bd (X := dX C n) (Y := dY C n) (n := dN C n) (t := j) (by omega) (by omega)).1; omega) | (have hb := (sp_bd (X := dX C n) (Y := dY C n) (n := dN C n) (t := j - 1) (by omega) (by omega)).1; omega) | (have hm := mh_step (X := dX C n) (Y := dY C n) (n := dN C n) (t := j) hy.1 (by omega) (by omega); omega) | (have hle := stN_le (n := dN C n) (by unfold stN at hy; have h3 := hy.2; split at h3 <;> omega); first | omega | (rw [hy.2, sp_ok hy.1 (by omega)]; first | rfl | (simp; omega) | done))
def c_l_FnSpanningTree (C : Int → Int) (n : Int) : Cn Try.prog := ⟨_, _, _, _, _, l_FnSpanningTree C n⟩
end Go.Proofs.Ytcfkpdjbjfnnmaa
