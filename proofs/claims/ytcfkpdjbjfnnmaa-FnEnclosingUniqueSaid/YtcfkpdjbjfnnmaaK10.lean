/- What the exact laws use: copies, comparisons, marks. -/
import Derived.Test.YtcfkpdjbjfnnmaaK6
set_option linter.unusedSimpArgs false
set_option linter.unusedVariables false
set_option maxRecDepth 100000
namespace Go.Proofs.Ytcfkpdjbjfnnmaa
open Go.Sym
def eqP (X Y : Int → Int) (n : Int) (V W : Int → Int) (m : Int) : Bool := decide (n = m) && allB (fun i => decide (X i = V i) && decide (Y i = W i)) n
theorem eqP_refl (X Y : Int → Int) (n : Int) : eqP X Y n X Y n = true := by
  unfold eqP
  rw [decide_eq_true rfl, Bool.true_and]
  exact allB_iff.2 fun i _ _ => by simp
def heldB (Z : Int → Int) (m s : Int) : Bool := allB (fun i => decide (Z i = s + i)) m
theorem heldB_mark (m s : Int) : heldB (fun i => s + i) m s = true := allB_iff.2 fun i _ _ => by simp
def cpy (X : Int → Int) (j i : Int) : Int := if i < j then X i else 0
def mk1 (Z : Int → Int) (s j i : Int) : Int := if i < j then s + i else Z i
def mkX (Z : Int → Int) (s j i : Int) : Int := if i < j then s + 2 * i else Z i
def mkY (Z : Int → Int) (s j i : Int) : Int := if i < j then s + 2 * i + 1 else Z i
theorem l_toPoint (pX : Int) (pY : Int) : RunsTo Try.prog 54 [(.agg [(.int .i64 (.v fun _ => pX) (-9223372036854775808) 9223372036854775807), (.int .i64 (.v fun _ => pY) (-9223372036854775808) 9223372036854775807)])] [] (.agg [(.int .i64 (.v fun _ => pX) (-9223372036854775808) 9223372036854775807), (.int .i64 (.v fun _ => pY) (-9223372036854775808) 9223372036854775807)]) [] := by
  refine RunsTo.go env Try.func54 rfl Try.call54 rfl rfl (fun _ _ => .ret) (G := (((-9223372036854775808) ≤ pX ∧ pX ≤ 9223372036854775807) ∧ ((-9223372036854775808) ≤ pY ∧ pY ≤ 9223372036854775807)) → (True) → ((pX = pX) ∧ (pY = pY))) (by kernel_rfl) ?_
  intro h1 h2
  exact ⟨rfl, rfl⟩
def c_l_toPoint (pX : Int) (pY : Int) : Cn Try.prog := ⟨_, _, _, _, _, l_toPoint pX pY⟩
theorem l_eqPoint (aX : Int) (aY : Int) (bX : Int) (bY : Int) : RunsTo Try.prog 65 [(.agg [(.int .i64 (.v fun _ => aX) (-9223372036854775808) 9223372036854775807), (.int .i64 (.v fun _ => aY) (-9223372036854775808) 9223372036854775807)]), (.agg [(.int .i64 (.v fun _ => bX) (-9223372036854775808) 9223372036854775807), (.int .i64 (.v fun _ => bY) (-9223372036854775808) 9223372036854775807)])] [] (.bool (.v fun _ => decide (aX = bX) && decide (aY = bY))) [] := by
  refine RunsTo.go env Try.func65 rfl Try.call65 rfl rfl (fun _ _ => (.ite .ret (.ite .ret .ret))) (G := ((((-9223372036854775808) ≤ aX ∧ aX ≤ 9223372036854775807) ∧ ((-9223372036854775808) ≤ aY ∧ aY ≤ 9223372036854775807)) ∧ (((-9223372036854775808) ≤ bX ∧ bX ≤ 9223372036854775807) ∧ ((-9223372036854775808) ≤ bY ∧ bY ≤ 9223372036854775807))) → (True) → (((aX ≠ bX) → ((decide (aX = bX) && decide (aY = bY)) = false)) ∧ ((aX = bX) → (((aY ≠ bY) → ((decide (aX = bX) && decide (aY = bY)) = false)) ∧ ((aY = bY) → ((decide (aX = bX) && decide (aY = bY)) = true)))))) (by kernel_rfl) ?_
  intro h1 h2
  refine ⟨?_, ?_⟩
  · intro c1
    simp_all; done
  · intro c2
    refine ⟨?_, ?_⟩
    · intro c3
      simp_all; done
    · intro c4
      simp_all; done
def c_l_eqPoint (aX : Int) (aY : Int) (bX : Int) (bY : Int) : Cn Try.prog := ⟨_, _, _, _, _, l_eqPoint aX aY bX bY⟩
theorem l_szPointS (X : Int → Int) (Y : Int → Int) (n : Int) (t : Int) : RunsTo Try.prog 13 [(.sl 0 2 (.lit 0) (.v fun _ => n) 9223372036854775807), (.int .i64 (.v fun _ => t) 0 1048576)] [some ⟨69, 2, false, (.sym (.v fun _ => n) fun e => [(.int .i64 (.v fun _ => (X (e.den))) (-9223372036854775808) 9223372036854775807), (.int .i64 (.v fun _ => (Y (e.den))) (-9223372036854775808) 9223372036854775807)])⟩] (.int .i64 (.v fun _ => if t - n < 0 then -1 else t - n) (-1) 1048576) [some ⟨69, 2, false, (.sym (.v fun _ => n) fun e => [(.int .i64 (.v fun _ => (X (e.den))) (-9223372036854775808) 9223372036854775807), (.int .i64 (.v fun _ => (Y (e.den))) (-9223372036854775808) 9223372036854775807)])⟩] := by
  refine RunsTo.go env Try.func13 rfl Try.call13 rfl rfl (fun _ _ => (.ite .ret .ret)) (G := ((0 ≤ n ∧ n ≤ 9223372036854775807) ∧ (0 ≤ t ∧ t ≤ 1048576)) → (∀ e3 : E, ((0 ≤ e3.den ∧ e3.den < n) → (((-9223372036854775808) ≤ ((X (e3.den))) ∧ ((X (e3.den))) ≤ 9223372036854775807) ∧ ((-9223372036854775808) ≤ ((Y (e3.den))) ∧ ((Y (e3.den))) ≤ 9223372036854775807)))) → ((((t - n) < 0) → ((((-1) : Int) = (if t - n < 0 then -1 else t - n)) ∧ ((n ≤ n) ∧ (∀ e1 : E, ((0 ≤ e1.den ∧ e1.den < n) → ((((X (e1.den))) = ((X (e1.den)))) ∧ (((Y (e1.den))) = ((Y (e1.den)))))))))) ∧ ((0 ≤ (t - n)) → ((((t - n) = (if t - n < 0 then -1 else t - n)) ∧ (((-9223372036854775807) ≤ (t - n) ∧ (t - n) ≤ 1048576) → ((-1) ≤ (if t - n < 0 then -1 else t - n) ∧ (if t - n < 0 then -1 else t - n) ≤ 1048576))) ∧ ((n ≤ n) ∧ (∀ e2 : E, ((0 ≤ e2.den ∧ e2.den < n) → ((((X (e2.den))) = ((X (e2.den)))) ∧ (((Y (e2.den))) = ((Y (e2.den)))))))))))) (by kernel_rfl) ?_
  intro h1 h2
  refine ⟨?_, ?_⟩
  · intro c4
    refine ⟨?_, Int.le_refl _, fun _ => fun _ => ⟨rfl, rfl⟩⟩
    omega
  · intro c5
    refine ⟨?_, Int.le_refl _, fun _ => fun _ => ⟨rfl, rfl⟩⟩
    refine ⟨?_, ?_⟩
    · omega
    · intro c6
      omega
def c_l_szPointS (X : Int → Int) (Y : Int → Int) (n : Int) (t : Int) : Cn Try.prog := ⟨_, _, _, _, _, l_szPointS X Y n t⟩
theorem l_toPointS (X : Int → Int) (Y : Int → Int) (n : Int) : RunsTo Try.prog 16 [(.sl 0 2 (.lit 0) (.v fun _ => n) 1048576)] [some ⟨69, 2, false, (.sym (.v fun _ => n) fun e => [(.int .i64 (.v fun _ => (X (e.den))) (-9223372036854775808) 9223372036854775807), (.int .i64 (.v fun _ => (Y (e.den))) (-9223372036854775808) 9223372036854775807)])⟩] (.sl 1 2 (.lit 0) (.v fun _ => n) 1048576) [some ⟨69, 2, false, (.sym (.v fun _ => n) fun e => [(.int .i64 (.v fun _ => (X (e.den))) (-9223372036854775808) 9223372036854775807), (.int .i64 (.v fun _ => (Y (e.den))) (-9223372036854775808) 9223372036854775807)])⟩, some ⟨50, 2, true, (.sym (.v fun _ => n) fun e => [(.int .i64 (.v fun _ => (X (e.den))) (-9223372036854775808) 9223372036854775807), (.int .i64 (.v fun _ => (Y (e.den))) (-9223372036854775808) 9223372036854775807)])⟩] := by
  refine RunsTo.go env Try.func16 rfl Try.call16 rfl rfl (fun _ _ => (.need (.loop [] [0, 1] (Int) (fun x1 => ⟨spl 23 0 [(0, (.sl 0 2 (.lit 0) (.v fun _ => n) 1048576)), (2, (.raw (.slice none 0 0))), (3, (.sl 1 2 (.lit 0) (.v fun _ => n) 1048576)), (4, (.int .i64 (.v fun _ => x1) 0 1048576))], [some ⟨69, 2, false, (.sym (.v fun _ => n) fun e => [(.int .i64 (.v fun _ => (X (e.den))) (-9223372036854775808) 9223372036854775807), (.int .i64 (.v fun _ => (Y (e.den))) (-9223372036854775808) 9223372036854775807)])⟩, some ⟨50, 2, true, (.sym (.v fun _ => n) fun e => [(.int .i64 (.v fun _ => cpy X x1 (e.den)) (-9223372036854775808) 9223372036854775807), (.int .i64 (.v fun _ => cpy Y x1 (e.den)) (-9223372036854775808) 9223372036854775807)])⟩], 1⟩) (fun x1 => 0 ≤ x1 ∧ x1 ≤ n) (fun x1 => (n - x1).toNat) fun x1 => (.ite (.need (.need (.call (c_l_toPoint ((X (x1))) ((Y (x1)))) (.need (.need (.next [0, 1])))))) (.out .ret))))) (G := (0 ≤ n ∧ n ≤ 1048576) → (∀ e11 : E, ((0 ≤ e11.den ∧ e11.den < n) → (((-9223372036854775808) ≤ ((X (e11.den))) ∧ ((X (e11.den))) ≤ 9223372036854775807) ∧ ((-9223372036854775808) ≤ ((Y (e11.den))) ∧ ((Y (e11.den))) ≤ 9223372036854775807)))) → ((n ≤ n) ∧ ((∃ y2 : Int, ((0 ≤ y2 ∧ y2 ≤ n) ∧ (((n = n) ∧ ((((.slice none 0 0) : Value) = (.slice none 0 0)) ∧ ((n = n) ∧ ((0 : Int) = y2)))) ∧ (((n ≤ n) ∧ (∀ e4 : E, ((0 ≤ e4.den ∧ e4.den < n) → ((((X (e4.den))) = ((X (e4.den)))) ∧ (((Y (e4.den))) = ((Y (e4.den)))))))) ∧ ((n ≤ n) ∧ (∀ e3 : E, ((0 ≤ e3.den ∧ e3.den < n) → (((0 : Int) = (cpy X y2 (e3.den))) ∧ ((0 : Int) = (cpy Y y2 (e3.den))))))))))) ∧ (∀ x1 : Int, ((0 ≤ x1 ∧ x1 ≤ n) → (((x1 < n) → ((((0 ≤ x1) ∧ (x1 < n))) ∧ ((x1 < n) ∧ (((((X (x1))) = ((X (x1)))) ∧ (((Y (x1))) = ((Y (x1))))) ∧ ((((0 ≤ x1) ∧ (x1 < n))) ∧ ((x1 < n) ∧ (∃ y5 : Int, ((0 ≤ y5 ∧ y5 ≤ n) ∧ ((((n = n) ∧ ((((.slice none 0 0) : Value) = (.slice none 0 0)) ∧ ((n = n) ∧ (((x1 + 1) = y5) ∧ ((1 ≤ (x1 + 1) ∧ (x1 + 1) ≤ 1048577) → (0 ≤ y5 ∧ y5 ≤ 1048576)))))) ∧ (((n ≤ n) ∧ (∀ e8 : E, ((0 ≤ e8.den ∧ e8.den < n) → ((((X (e8.den))) = ((X (e8.den)))) ∧ (((Y (e8.den))) = ((Y (e8.den)))))))) ∧ ((n = n) ∧ ((∀ e7 : E, ((0 ≤ e7.den ∧ e7.den < n ∧ e7.den ≠ x1) → (((cpy X x1 (e7.den)) = (cpy X y5 (e7.den))) ∧ ((cpy Y x1 (e7.den)) = (cpy Y y5 (e7.den)))))) ∧ (∀ e6 : E, ((e6.den.toNat = (x1 : Int).toNat ∧ 0 ≤ e6.den) → ((((X (x1))) = (cpy X y5 (e6.den))) ∧ (((Y (x1))) = (cpy Y y5 (e6.den)))))))))) ∧ ((n - y5).toNat < (n - x1).toNat)))))))))) ∧ ((n ≤ x1) → ((n = n) ∧ (((n ≤ n) ∧ (∀ e10 : E, ((0 ≤ e10.den ∧ e10.den < n) → ((((X (e10.den))) = ((X (e10.den)))) ∧ (((Y (e10.den))) = ((Y (e10.den)))))))) ∧ ((n ≤ n) ∧ (∀ e9 : E, ((0 ≤ e9.den ∧ e9.den < n) → (((cpy X x1 (e9.den)) = ((X (e9.den)))) ∧ ((cpy Y x1 (e9.den)) = ((Y (e9.den))))))))))))))))) (by kernel_rfl) ?_
  intro h1 h2
  refine ⟨?_, ?_, ?_⟩
  · omega
  · refine ⟨0, ?_⟩
    try dsimp only
    refine ⟨?_, ?_, ⟨Int.le_refl _, fun _ => fun _ => ⟨rfl, rfl⟩⟩, Int.le_refl _, ?_⟩
    · omega
    · refine ⟨rfl, rfl, rfl, ?_⟩
      rfl
    · intro e3
      intro c12
      refine ⟨?_, ?_⟩
      · simp [cpy, *]; omega
      · simp [cpy, *]; omega
  · intro j
    intro I1
    refine ⟨?_, ?_⟩
    · intro c13
      refine ⟨?_, ?_, ⟨rfl, rfl⟩, ?_, ?_, ?_⟩
      · omega
      · omega
      · omega
      · omega
      · refine ⟨j + 1, ?_⟩
        try dsimp only
        refine ⟨?_, ?_, ?_⟩
        · omega
        · refine ⟨?_, ⟨Int.le_refl _, fun _ => fun _ => ⟨rfl, rfl⟩⟩, rfl, ?_, ?_⟩
          · refine ⟨rfl, rfl, rfl, ?_, ?_⟩
            · rfl
            · intro c14
              omega
          · intro e7
            intro c15
            refine ⟨?_, ?_⟩
            · simp [cpy, *]; omega
            · simp [cpy, *]; omega
          · intro e6
            intro c16
            refine ⟨?_, ?_⟩
            · simp only [cpy]; rw [if_pos (by omega)]; congr 1; omega
            · simp only [cpy]; rw [if_pos (by omega)]; congr 1; omega
        · omega
    · intro c17
      refine ⟨rfl, ⟨Int.le_refl _, fun _ => fun _ => ⟨rfl, rfl⟩⟩, Int.le_refl _, ?_⟩
      intro e9
      intro c18
      refine ⟨?_, ?_⟩
      · simp [cpy, *]; omega
      · simp [cpy, *]; omega
def c_l_toPointS (X : Int → Int) (Y : Int → Int) (n : Int) : Cn Try.prog := ⟨_, _, _, _, _, l_toPointS X Y n⟩
theorem l_eqPointS (X : Int → Int) (Y : Int → Int) (n : Int) (V : Int → Int) (U : Int → Int) (m : Int) : RunsTo Try.prog 19 [(.sl 0 2 (.lit 0) (.v fun _ => n) 1048576), (.sl 1 2 (.lit 0) (.v fun _ => m) 1048576)] [some ⟨50, 2, true, (.sym (.v fun _ => n) fun e => [(.int .i64 (.v fun _ => (X (e.den))) (-9223372036854775808) 9223372036854775807), (.int .i64 (.v fun _ => (Y (e.den))) (-9223372036854775808) 9223372036854775807)])⟩, some ⟨50, 2, true, (.sym (.v fun _ => m) fun e => [(.int .i64 (.v fun _ => (V (e.den))) (-9223372036854775808) 9223372036854775807), (.int .i64 (.v fun _ => (U (e.den))) (-9223372036854775808) 9223372036854775807)])⟩] (.bool (.v fun _ => eqP X Y n V U m)) [some ⟨50, 2, true, (.sym (.v fun _ => n) fun e => [(.int .i64 (.v fun _ => (X (e.den))) (-9223372036854775808) 9223372036854775807), (.int .i64 (.v fun _ => (Y (e.den))) (-9223372036854775808) 9223372036854775807)])⟩, some ⟨50, 2, true, (.sym (.v fun _ => m) fun e => [(.int .i64 (.v fun _ => (V (e.den))) (-9223372036854775808) 9223372036854775807), (.int .i64 (.v fun _ => (U (e.den))) (-9223372036854775808) 9223372036854775807)])⟩] := by
  refine RunsTo.go env Try.func19 rfl Try.call19 rfl rfl (fun _ _ => (.ite .ret (.loop [] [0, 1] (Int) (fun x3 => ⟨spl 27 0 [(0, (.sl 0 2 (.lit 0) (.v fun _ => n) 1048576)), (1, (.sl 1 2 (.lit 0) (.v fun _ => m) 1048576)), (5, (.int .i64 (.v fun _ => x3) 0 1048576))], [some ⟨50, 2, true, (.sym (.v fun _ => n) fun e => [(.int .i64 (.v fun _ => (X (e.den))) (-9223372036854775808) 9223372036854775807), (.int .i64 (.v fun _ => (Y (e.den))) (-9223372036854775808) 9223372036854775807)])⟩, some ⟨50, 2, true, (.sym (.v fun _ => m) fun e => [(.int .i64 (.v fun _ => (V (e.den))) (-9223372036854775808) 9223372036854775807), (.int .i64 (.v fun _ => (U (e.den))) (-9223372036854775808) 9223372036854775807)])⟩], 2⟩) (fun x3 => (0 ≤ x3 ∧ x3 ≤ n) ∧ ∀ i, 0 ≤ i → i < x3 → (decide ((X (i)) = (V (i))) && decide ((Y (i)) = (U (i)))) = true) (fun x3 => (n - x3).toNat) fun x3 => (.ite (.need (.need (.need (.need (.call (c_l_eqPoint ((X (x3))) ((Y (x3))) ((V (x3))) ((U (x3)))) (.ite (.out .ret) (.next [0, 1]))))))) (.out .ret))))) (G := ((0 ≤ n ∧ n ≤ 1048576) ∧ (0 ≤ m ∧ m ≤ 1048576)) → ((∀ e15 : E, ((0 ≤ e15.den ∧ e15.den < n) → (((-9223372036854775808) ≤ ((X (e15.den))) ∧ ((X (e15.den))) ≤ 9223372036854775807) ∧ ((-9223372036854775808) ≤ ((Y (e15.den))) ∧ ((Y (e15.den))) ≤ 9223372036854775807)))) ∧ (∀ e14 : E, ((0 ≤ e14.den ∧ e14.den < m) → (((-9223372036854775808) ≤ ((V (e14.den))) ∧ ((V (e14.den))) ≤ 9223372036854775807) ∧ ((-9223372036854775808) ≤ ((U (e14.den))) ∧ ((U (e14.den))) ≤ 9223372036854775807))))) → (((n ≠ m) → (((eqP X Y n V U m) = false) ∧ (((n ≤ n) ∧ (∀ e2 : E, ((0 ≤ e2.den ∧ e2.den < n) → ((((X (e2.den))) = ((X (e2.den)))) ∧ (((Y (e2.den))) = ((Y (e2.den)))))))) ∧ ((m ≤ m) ∧ (∀ e1 : E, ((0 ≤ e1.den ∧ e1.den < m) → ((((V (e1.den))) = ((V (e1.den)))) ∧ (((U (e1.den))) = ((U (e1.den))))))))))) ∧ ((n = m) → ((∃ y4 : Int, (((0 ≤ y4 ∧ y4 ≤ n) ∧ ∀ i, 0 ≤ i → i < y4 → (decide ((X (i)) = (V (i))) && decide ((Y (i)) = (U (i)))) = true) ∧ (((n = n) ∧ ((m = m) ∧ ((0 : Int) = y4))) ∧ (((n ≤ n) ∧ (∀ e6 : E, ((0 ≤ e6.den ∧ e6.den < n) → ((((X (e6.den))) = ((X (e6.den)))) ∧ (((Y (e6.den))) = ((Y (e6.den)))))))) ∧ ((m ≤ m) ∧ (∀ e5 : E, ((0 ≤ e5.den ∧ e5.den < m) → ((((V (e5.den))) = ((V (e5.den)))) ∧ (((U (e5.den))) = ((U (e5.den)))))))))))) ∧ (∀ x3 : Int, (((0 ≤ x3 ∧ x3 ≤ n) ∧ ∀ i, 0 ≤ i → i < x3 → (decide ((X (i)) = (V (i))) && decide ((Y (i)) = (U (i)))) = true) → (((x3 < n) → ((((0 ≤ x3) ∧ (x3 < n))) ∧ ((x3 < n) ∧ ((((0 ≤ x3) ∧ (x3 < m))) ∧ ((x3 < m) ∧ ((((((X (x3))) = ((X (x3)))) ∧ (((Y (x3))) = ((Y (x3))))) ∧ ((((V (x3))) = ((V (x3)))) ∧ (((U (x3))) = ((U (x3)))))) ∧ ((((decide (((X (x3))) = ((V (x3)))) && decide (((Y (x3))) = ((U (x3))))) = false) → (((eqP X Y n V U m) = false) ∧ (((n ≤ n) ∧ (∀ e8 : E, ((0 ≤ e8.den ∧ e8.den < n) → ((((X (e8.den))) = ((X (e8.den)))) ∧ (((Y (e8.den))) = ((Y (e8.den)))))))) ∧ ((m ≤ m) ∧ (∀ e7 : E, ((0 ≤ e7.den ∧ e7.den < m) → ((((V (e7.den))) = ((V (e7.den)))) ∧ (((U (e7.den))) = ((U (e7.den))))))))))) ∧ (((decide (((X (x3))) = ((V (x3)))) && decide (((Y (x3))) = ((U (x3))))) = true) → (∃ y9 : Int, (((0 ≤ y9 ∧ y9 ≤ n) ∧ ∀ i, 0 ≤ i → i < y9 → (decide ((X (i)) = (V (i))) && decide ((Y (i)) = (U (i)))) = true) ∧ ((((n = n) ∧ ((m = m) ∧ (((x3 + 1) = y9) ∧ ((1 ≤ (x3 + 1) ∧ (x3 + 1) ≤ 1048577) → (0 ≤ y9 ∧ y9 ≤ 1048576))))) ∧ (((n ≤ n) ∧ (∀ e11 : E, ((0 ≤ e11.den ∧ e11.den < n) → ((((X (e11.den))) = ((X (e11.den)))) ∧ (((Y (e11.den))) = ((Y (e11.den)))))))) ∧ ((m ≤ m) ∧ (∀ e10 : E, ((0 ≤ e10.den ∧ e10.den < m) → ((((V (e10.den))) = ((V (e10.den)))) ∧ (((U (e10.den))) = ((U (e10.den)))))))))) ∧ ((n - y9).toNat < (n - x3).toNat)))))))))))) ∧ ((n ≤ x3) → (((eqP X Y n V U m) = true) ∧ (((n ≤ n) ∧ (∀ e13 : E, ((0 ≤ e13.den ∧ e13.den < n) → ((((X (e13.den))) = ((X (e13.den)))) ∧ (((Y (e13.den))) = ((Y (e13.den)))))))) ∧ ((m ≤ m) ∧ (∀ e12 : E, ((0 ≤ e12.den ∧ e12.den < m) → ((((V (e12.den))) = ((V (e12.den)))) ∧ (((U (e12.den))) = ((U (e12.den)))))))))))))))))) (by kernel_rfl) ?_
  intro h1 h2
  refine ⟨?_, ?_⟩
  · intro c16
    refine ⟨?_, ⟨Int.le_refl _, fun _ => fun _ => ⟨rfl, rfl⟩⟩, Int.le_refl _, fun _ => fun _ => ⟨rfl, rfl⟩⟩
    simp [eqP]; omega
  · intro c17
    refine ⟨?_, ?_⟩
    · refine ⟨0, ?_⟩
      try dsimp only
      refine ⟨?_, ?_, ⟨Int.le_refl _, fun _ => fun _ => ⟨rfl, rfl⟩⟩, Int.le_refl _, fun _ => fun _ => ⟨rfl, rfl⟩⟩
      · refine ⟨by omega, fun i a b => ?_⟩; first | (exfalso; omega) | (by_cases e : i = j; (subst e; assumption); exact I1.2 i a (by omega))
      · refine ⟨rfl, rfl, ?_⟩
        rfl
    · intro j
      intro I1
      refine ⟨?_, ?_⟩
      · intro c18
        refine ⟨?_, ?_, ?_, ?_, ⟨⟨rfl, rfl⟩, ⟨rfl, rfl⟩⟩, ?_, ?_⟩
        · omega
        · omega
        · omega
        · omega
        · intro c19
          refine ⟨?_, ⟨Int.le_refl _, fun _ => fun _ => ⟨rfl, rfl⟩⟩, Int.le_refl _, fun _ => fun _ => ⟨rfl, rfl⟩⟩
          simp only [eqP]; rw [allB_false (q := fun i => decide (X i = V i) && decide (Y i = U i)) I1.1.1 (by omega) (by assumption)]; simp; done
        · intro c20
          refine ⟨j + 1, ?_⟩
          try dsimp only
          refine ⟨?_, ?_, ?_⟩
          · refine ⟨by omega, fun i a b => ?_⟩; first | (exfalso; omega) | (by_cases e : i = j; (subst e; assumption); exact I1.2 i a (by omega))
          · refine ⟨?_, ⟨Int.le_refl _, fun _ => fun _ => ⟨rfl, rfl⟩⟩, Int.le_refl _, fun _ => fun _ => ⟨rfl, rfl⟩⟩
            refine ⟨rfl, rfl, ?_, ?_⟩
            · rfl
            · intro c21
              omega
          · omega
      · intro c22
        refine ⟨?_, ⟨Int.le_refl _, fun _ => fun _ => ⟨rfl, rfl⟩⟩, Int.le_refl _, fun _ => fun _ => ⟨rfl, rfl⟩⟩
        simp only [eqP]; rw [allB_iff.2 fun i a b => I1.2 i a (by omega)]; simp; omega
def c_l_eqPointS (X : Int → Int) (Y : Int → Int) (n : Int) (V : Int → Int) (U : Int → Int) (m : Int) : Cn Try.prog := ⟨_, _, _, _, _, l_eqPointS X Y n V U m⟩
theorem l_eqIntS (Z : Int → Int) (m : Int) (V : Int → Int) (k : Int) : RunsTo Try.prog 23 [(.sl 0 1 (.lit 0) (.v fun _ => m) 1048576), (.sl 1 1 (.lit 0) (.v fun _ => k) 1048576)] [some ⟨3, 1, true, (.sym (.v fun _ => m) fun e => [(.int .i64 (.v fun _ => (Z (e.den))) 0 1048576)])⟩, some ⟨3, 1, true, (.sym (.v fun _ => k) fun e => [(.int .i64 (.v fun _ => (V (e.den))) 0 1048576)])⟩] (.bool (.v fun _ => eqB Z m V k)) [some ⟨3, 1, true, (.sym (.v fun _ => m) fun e => [(.int .i64 (.v fun _ => (Z (e.den))) 0 1048576)])⟩, some ⟨3, 1, true, (.sym (.v fun _ => k) fun e => [(.int .i64 (.v fun _ => (V (e.den))) 0 1048576)])⟩] := by
  refine RunsTo.go env Try.func23 rfl Try.call23 rfl rfl (fun _ _ => (.ite .ret (.loop [] [0, 1] (Int) (fun x3 => ⟨spl 26 0 [(0, (.sl 0 1 (.lit 0) (.v fun _ => m) 1048576)), (1, (.sl 1 1 (.lit 0) (.v fun _ => k) 1048576)), (5, (.int .i64 (.v fun _ => x3) 0 1048576))], [some ⟨3, 1, true, (.sym (.v fun _ => m) fun e => [(.int .i64 (.v fun _ => (Z (e.den))) 0 1048576)])⟩, some ⟨3, 1, true, (.sym (.v fun _ => k) fun e => [(.int .i64 (.v fun _ => (V (e.den))) 0 1048576)])⟩], 2⟩) (fun x3 => (0 ≤ x3 ∧ x3 ≤ m) ∧ ∀ i, 0 ≤ i → i < x3 → decide ((Z (i)) = (V (i))) = true) (fun x3 => (m - x3).toNat) fun x3 => (.ite (.need (.need (.need (.need (.ite (.out .ret) (.next [0, 1])))))) (.out .ret))))) (G := ((0 ≤ m ∧ m ≤ 1048576) ∧ (0 ≤ k ∧ k ≤ 1048576)) → ((∀ e15 : E, ((0 ≤ e15.den ∧ e15.den < m) → (0 ≤ ((Z (e15.den))) ∧ ((Z (e15.den))) ≤ 1048576))) ∧ (∀ e14 : E, ((0 ≤ e14.den ∧ e14.den < k) → (0 ≤ ((V (e14.den))) ∧ ((V (e14.den))) ≤ 1048576)))) → (((m ≠ k) → (((eqB Z m V k) = false) ∧ (((m ≤ m) ∧ (∀ e2 : E, ((0 ≤ e2.den ∧ e2.den < m) → (((Z (e2.den))) = ((Z (e2.den))))))) ∧ ((k ≤ k) ∧ (∀ e1 : E, ((0 ≤ e1.den ∧ e1.den < k) → (((V (e1.den))) = ((V (e1.den)))))))))) ∧ ((m = k) → ((∃ y4 : Int, (((0 ≤ y4 ∧ y4 ≤ m) ∧ ∀ i, 0 ≤ i → i < y4 → decide ((Z (i)) = (V (i))) = true) ∧ (((m = m) ∧ ((k = k) ∧ ((0 : Int) = y4))) ∧ (((m ≤ m) ∧ (∀ e6 : E, ((0 ≤ e6.den ∧ e6.den < m) → (((Z (e6.den))) = ((Z (e6.den))))))) ∧ ((k ≤ k) ∧ (∀ e5 : E, ((0 ≤ e5.den ∧ e5.den < k) → (((V (e5.den))) = ((V (e5.den))))))))))) ∧ (∀ x3 : Int, (((0 ≤ x3 ∧ x3 ≤ m) ∧ ∀ i, 0 ≤ i → i < x3 → decide ((Z (i)) = (V (i))) = true) → (((x3 < m) → ((((0 ≤ x3) ∧ (x3 < m))) ∧ ((x3 < m) ∧ ((((0 ≤ x3) ∧ (x3 < k))) ∧ ((x3 < k) ∧ (((((Z (x3))) ≠ ((V (x3)))) → (((eqB Z m V k) = false) ∧ (((m ≤ m) ∧ (∀ e8 : E, ((0 ≤ e8.den ∧ e8.den < m) → (((Z (e8.den))) = ((Z (e8.den))))))) ∧ ((k ≤ k) ∧ (∀ e7 : E, ((0 ≤ e7.den ∧ e7.den < k) → (((V (e7.den))) = ((V (e7.den)))))))))) ∧ ((((Z (x3))) = ((V (x3)))) → (∃ y9 : Int, (((0 ≤ y9 ∧ y9 ≤ m) ∧ ∀ i, 0 ≤ i → i < y9 → decide ((Z (i)) = (V (i))) = true) ∧ ((((m = m) ∧ ((k = k) ∧ (((x3 + 1) = y9) ∧ ((1 ≤ (x3 + 1) ∧ (x3 + 1) ≤ 1048577) → (0 ≤ y9 ∧ y9 ≤ 1048576))))) ∧ (((m ≤ m) ∧ (∀ e11 : E, ((0 ≤ e11.den ∧ e11.den < m) → (((Z (e11.den))) = ((Z (e11.den))))))) ∧ ((k ≤ k) ∧ (∀ e10 : E, ((0 ≤ e10.den ∧ e10.den < k) → (((V (e10.den))) = ((V (e10.den))))))))) ∧ ((m - y9).toNat < (m - x3).toNat))))))))))) ∧ ((m ≤ x3) → (((eqB Z m V k) = true) ∧ (((m ≤ m) ∧ (∀ e13 : E, ((0 ≤ e13.den ∧ e13.den < m) → (((Z (e13.den))) = ((Z (e13.den))))))) ∧ ((k ≤ k) ∧ (∀ e12 : E, ((0 ≤ e12.den ∧ e12.den < k) → (((V (e12.den))) = ((V (e12.den))))))))))))))))) (by kernel_rfl) ?_
  intro h1 h2
  refine ⟨?_, ?_⟩
  · intro c16
    refine ⟨?_, ⟨Int.le_refl _, fun _ => fun _ => rfl⟩, Int.le_refl _, fun _ => fun _ => rfl⟩
    simp [eqB]; omega
  · intro c17
    refine ⟨?_, ?_⟩
    · refine ⟨0, ?_⟩
      try dsimp only
      refine ⟨?_, ?_, ⟨Int.le_refl _, fun _ => fun _ => rfl⟩, Int.le_refl _, fun _ => fun _ => rfl⟩
      · refine ⟨by omega, fun i a b => ?_⟩; first | (exfalso; omega) | (by_cases e : i = j; (subst e; exact decide_eq_true (by assumption)); exact I1.2 i a (by omega))
      · refine ⟨rfl, rfl, ?_⟩
        rfl
    · intro j
      intro I1
      refine ⟨?_, ?_⟩
      · intro c18
        refine ⟨?_, ?_, ?_, ?_, ?_, ?_⟩
        · omega
        · omega
        · omega
        · omega
        · intro c19
          refine ⟨?_, ⟨Int.le_refl _, fun _ => fun _ => rfl⟩, Int.le_refl _, fun _ => fun _ => rfl⟩
          simp only [eqB]; rw [allB_false (q := fun i => decide (Z i = V i)) I1.1.1 (by omega) (decide_eq_false (by assumption))]; simp; done
        · intro c20
          refine ⟨j + 1, ?_⟩
          try dsimp only
          refine ⟨?_, ?_, ?_⟩
          · refine ⟨by omega, fun i a b => ?_⟩; first | (exfalso; omega) | (by_cases e : i = j; (subst e; exact decide_eq_true (by assumption)); exact I1.2 i a (by omega))
          · refine ⟨?_, ⟨Int.le_refl _, fun _ => fun _ => rfl⟩, Int.le_refl _, fun _ => fun _ => rfl⟩
            refine ⟨rfl, rfl, ?_, ?_⟩
            · rfl
            · intro c21
              omega
          · omega
      · intro c22
        refine ⟨?_, ⟨Int.le_refl _, fun _ => fun _ => rfl⟩, Int.le_refl _, fun _ => fun _ => rfl⟩
        simp only [eqB]; rw [allB_iff.2 fun i a b => I1.2 i a (by omega)]; simp; omega
def c_l_eqIntS (Z : Int → Int) (m : Int) (V : Int → Int) (k : Int) : Cn Try.prog := ⟨_, _, _, _, _, l_eqIntS Z m V k⟩
theorem l_markIntS (Z : Int → Int) (m : Int) (s : Int) : RunsTo Try.prog 25 [(.sl 0 1 (.lit 0) (.v fun _ => m) 1048576), (.int .i64 (.v fun _ => s) 0 1048576)] [some ⟨3, 1, true, (.sym (.v fun _ => m) fun e => [(.int .i64 (.v fun _ => (Z (e.den))) 0 1048576)])⟩] (.int .i64 (.v fun _ => s + m) 0 4194304) [some ⟨3, 1, true, (.sym (.v fun _ => m) fun e => [(.int .i64 (.v fun _ => s + e.den) 0 4194304)])⟩] := by
  refine RunsTo.go env Try.func25 rfl Try.call25 rfl rfl (fun _ _ => (.loop [] [0] (Int) (fun x1 => ⟨spl 19 0 [(0, (.sl 0 1 (.lit 0) (.v fun _ => m) 1048576)), (1, (.int .i64 (.v fun _ => s + x1) 0 4194304)), (4, (.int .i64 (.lit 0) 0 0)), (5, (.int .i64 (.v fun _ => x1) 0 1048576))], [some ⟨3, 1, true, (.sym (.v fun _ => m) fun e => [(.int .i64 (.v fun _ => mk1 Z s x1 (e.den)) 0 4194304)])⟩], 1⟩) (fun x1 => 0 ≤ x1 ∧ x1 ≤ m) (fun x1 => (m - x1).toNat) fun x1 => (.ite (.need (.need (.next [0]))) (.out .ret)))) (G := ((0 ≤ m ∧ m ≤ 1048576) ∧ (0 ≤ s ∧ s ≤ 1048576)) → (∀ e8 : E, ((0 ≤ e8.den ∧ e8.den < m) → (0 ≤ ((Z (e8.den))) ∧ ((Z (e8.den))) ≤ 1048576))) → ((∃ y2 : Int, ((0 ≤ y2 ∧ y2 ≤ m) ∧ (((m = m) ∧ ((s = (s + y2)) ∧ ((0 : Int) = y2))) ∧ ((m ≤ m) ∧ (∀ e3 : E, ((0 ≤ e3.den ∧ e3.den < m) → (((Z (e3.den))) = (mk1 Z s y2 (e3.den))))))))) ∧ (∀ x1 : Int, ((0 ≤ x1 ∧ x1 ≤ m) → (((x1 < m) → ((((0 ≤ x1) ∧ (x1 < m))) ∧ ((x1 < m) ∧ (∃ y4 : Int, ((0 ≤ y4 ∧ y4 ≤ m) ∧ ((((m = m) ∧ (((((s + x1) + 1) = (s + y4)) ∧ ((1 ≤ ((s + x1) + 1) ∧ ((s + x1) + 1) ≤ 4194305) → (0 ≤ (s + y4) ∧ (s + y4) ≤ 4194304))) ∧ (((x1 + 1) = y4) ∧ ((1 ≤ (x1 + 1) ∧ (x1 + 1) ≤ 1048577) → (0 ≤ y4 ∧ y4 ≤ 1048576))))) ∧ ((m = m) ∧ ((∀ e6 : E, ((0 ≤ e6.den ∧ e6.den < m ∧ e6.den ≠ x1) → ((mk1 Z s x1 (e6.den)) = (mk1 Z s y4 (e6.den))))) ∧ (∀ e5 : E, ((e5.den.toNat = (x1 : Int).toNat ∧ 0 ≤ e5.den) → ((s + x1) = (mk1 Z s y4 (e5.den)))))))) ∧ ((m - y4).toNat < (m - x1).toNat))))))) ∧ ((m ≤ x1) → (((s + x1) = (s + m)) ∧ ((m ≤ m) ∧ (∀ e7 : E, ((0 ≤ e7.den ∧ e7.den < m) → ((mk1 Z s x1 (e7.den)) = (s + e7.den)))))))))))) (by kernel_rfl) ?_
  intro h1 h2
  refine ⟨?_, ?_⟩
  · refine ⟨0, ?_⟩
    try dsimp only
    refine ⟨?_, ?_, Int.le_refl _, ?_⟩
    · omega
    · refine ⟨rfl, ?_, ?_⟩
      · omega
      · rfl
    · intro e3
      intro c9
      simp [mk1, *]; omega
  · intro j
    intro I1
    refine ⟨?_, ?_⟩
    · intro c10
      refine ⟨?_, ?_, ?_⟩
      · omega
      · omega
      · refine ⟨j + 1, ?_⟩
        try dsimp only
        refine ⟨?_, ?_, ?_⟩
        · omega
        · refine ⟨?_, rfl, ?_, ?_⟩
          · refine ⟨rfl, ?_, ?_, ?_⟩
            · refine ⟨?_, ?_⟩
              · omega
              · intro c11
                omega
            · rfl
            · intro c12
              omega
          · intro e6
            intro c13
            simp [mk1, *]; omega
          · intro e5
            intro c14
            simp [mk1, *]; omega
        · omega
    · intro c15
      refine ⟨?_, Int.le_refl _, ?_⟩
      · omega
      · intro e7
        intro c16
        simp [mk1, *]; omega
def c_l_markIntS (Z : Int → Int) (m : Int) (s : Int) : Cn Try.prog := ⟨_, _, _, _, _, l_markIntS Z m s⟩
theorem l_heldIntS (Z : Int → Int) (m : Int) (s : Int) : RunsTo Try.prog 26 [(.sl 0 1 (.lit 0) (.v fun _ => m) 1048576), (.int .i64 (.v fun _ => s) 0 1048576)] [some ⟨3, 1, true, (.sym (.v fun _ => m) fun e => [(.int .i64 (.v fun _ => (Z (e.den))) 0 4194304)])⟩] (.int .i64 (.v fun _ => if heldB Z m s = true then s + m else -1) (-1) 4194304) [some ⟨3, 1, true, (.sym (.v fun _ => m) fun e => [(.int .i64 (.v fun _ => (Z (e.den))) 0 4194304)])⟩] := by
  refine RunsTo.go env Try.func26 rfl Try.call26 rfl rfl (fun _ _ => (.loop [] [0] (Int) (fun x1 => ⟨spl 21 0 [(0, (.sl 0 1 (.lit 0) (.v fun _ => m) 1048576)), (1, (.int .i64 (.v fun _ => s + x1) 0 4194304)), (5, (.int .i64 (.v fun _ => x1) 0 1048576))], [some ⟨3, 1, true, (.sym (.v fun _ => m) fun e => [(.int .i64 (.v fun _ => (Z (e.den))) 0 4194304)])⟩], 1⟩) (fun x1 => (0 ≤ x1 ∧ x1 ≤ m) ∧ ∀ i, 0 ≤ i → i < x1 → decide ((Z (i)) = s + i) = true) (fun x1 => (m - x1).toNat) fun x1 => (.ite (.need (.need (.ite (.out .ret) (.next [0])))) (.out .ret)))) (G := ((0 ≤ m ∧ m ≤ 1048576) ∧ (0 ≤ s ∧ s ≤ 1048576)) → (∀ e8 : E, ((0 ≤ e8.den ∧ e8.den < m) → (0 ≤ ((Z (e8.den))) ∧ ((Z (e8.den))) ≤ 4194304))) → ((∃ y2 : Int, (((0 ≤ y2 ∧ y2 ≤ m) ∧ ∀ i, 0 ≤ i → i < y2 → decide ((Z (i)) = s + i) = true) ∧ (((m = m) ∧ ((s = (s + y2)) ∧ ((0 : Int) = y2))) ∧ ((m ≤ m) ∧ (∀ e3 : E, ((0 ≤ e3.den ∧ e3.den < m) → (((Z (e3.den))) = ((Z (e3.den)))))))))) ∧ (∀ x1 : Int, (((0 ≤ x1 ∧ x1 ≤ m) ∧ ∀ i, 0 ≤ i → i < x1 → decide ((Z (i)) = s + i) = true) → (((x1 < m) → ((((0 ≤ x1) ∧ (x1 < m))) ∧ ((x1 < m) ∧ (((((Z (x1))) ≠ (s + x1)) → ((((-1) : Int) = (if heldB Z m s = true then s + m else -1)) ∧ ((m ≤ m) ∧ (∀ e4 : E, ((0 ≤ e4.den ∧ e4.den < m) → (((Z (e4.den))) = ((Z (e4.den))))))))) ∧ ((((Z (x1))) = (s + x1)) → (∃ y5 : Int, (((0 ≤ y5 ∧ y5 ≤ m) ∧ ∀ i, 0 ≤ i → i < y5 → decide ((Z (i)) = s + i) = true) ∧ ((((m = m) ∧ (((((s + x1) + 1) = (s + y5)) ∧ ((1 ≤ ((s + x1) + 1) ∧ ((s + x1) + 1) ≤ 4194305) → (0 ≤ (s + y5) ∧ (s + y5) ≤ 4194304))) ∧ (((x1 + 1) = y5) ∧ ((1 ≤ (x1 + 1) ∧ (x1 + 1) ≤ 1048577) → (0 ≤ y5 ∧ y5 ≤ 1048576))))) ∧ ((m ≤ m) ∧ (∀ e6 : E, ((0 ≤ e6.den ∧ e6.den < m) → (((Z (e6.den))) = ((Z (e6.den)))))))) ∧ ((m - y5).toNat < (m - x1).toNat))))))))) ∧ ((m ≤ x1) → (((s + x1) = (if heldB Z m s = true then s + m else -1)) ∧ ((m ≤ m) ∧ (∀ e7 : E, ((0 ≤ e7.den ∧ e7.den < m) → (((Z (e7.den))) = ((Z (e7.den)))))))))))))) (by kernel_rfl) ?_
  intro h1 h2
  refine ⟨?_, ?_⟩
  · refine ⟨0, ?_⟩
    try dsimp only
    refine ⟨?_, ?_, Int.le_refl _, fun _ => fun _ => rfl⟩
    · refine ⟨by omega, fun i a b => ?_⟩; first | (exfalso; omega) | (by_cases e : i = j; (subst e; exact decide_eq_true (by assumption)); exact I1.2 i a (by omega))
    · refine ⟨rfl, ?_, ?_⟩
      · omega
      · rfl
  · intro j
    intro I1
    refine ⟨?_, ?_⟩
    · intro c9
      refine ⟨?_, ?_, ?_, ?_⟩
      · omega
      · omega
      · intro c10
        refine ⟨?_, Int.le_refl _, fun _ => fun _ => rfl⟩
        have hf : heldB Z m s = false := allB_false (q := fun i => decide (Z i = s + i)) I1.1.1 (by omega) (decide_eq_false (by assumption)); simp [hf]; done
      · intro c11
        refine ⟨j + 1, ?_⟩
        try dsimp only
        refine ⟨?_, ?_, ?_⟩
        · refine ⟨by omega, fun i a b => ?_⟩; first | (exfalso; omega) | (by_cases e : i = j; (subst e; exact decide_eq_true (by assumption)); exact I1.2 i a (by omega))
        · refine ⟨?_, Int.le_refl _, fun _ => fun _ => rfl⟩
          refine ⟨rfl, ?_, ?_, ?_⟩
          · refine ⟨?_, ?_⟩
            · omega
            · intro c12
              omega
          · rfl
          · intro c13
            omega
        · omega
    · intro c14
      refine ⟨?_, Int.le_refl _, fun _ => fun _ => rfl⟩
      have hf : heldB Z m s = true := allB_iff.2 fun i a b => I1.2 i a (by omega); simp [hf]; omega
def c_l_heldIntS (Z : Int → Int) (m : Int) (s : Int) : Cn Try.prog := ⟨_, _, _, _, _, l_heldIntS Z m s⟩
theorem l_markPointS (X : Int → Int) (Y : Int → Int) (n : Int) (s : Int) : RunsTo Try.prog 24 [(.sl 0 2 (.lit 0) (.v fun _ => n) 1048576), (.int .i64 (.v fun _ => s) 0 1048576)] [some ⟨50, 2, true, (.sym (.v fun _ => n) fun e => [(.int .i64 (.v fun _ => (X (e.den))) (-9223372036854775808) 9223372036854775807), (.int .i64 (.v fun _ => (Y (e.den))) (-9223372036854775808) 9223372036854775807)])⟩] (.int .i64 (.v fun _ => s + 2 * n) 0 4194304) [some ⟨50, 2, true, (.sym (.v fun _ => n) fun e => [(.int .i64 (.v fun _ => s + 2 * e.den) 0 4194304), (.int .i64 (.v fun _ => s + 2 * e.den + 1) 0 4194304)])⟩] := by
  refine RunsTo.go env Try.func24 rfl Try.call24 rfl rfl (fun _ _ => (.loop [] [0] (Int) (fun x1 => ⟨spl 27 0 [(0, (.sl 0 2 (.lit 0) (.v fun _ => n) 1048576)), (1, (.int .i64 (.v fun _ => s + 2 * x1) 0 4194304)), (4, (.int .i64 (.lit 0) 0 0)), (5, (.int .i64 (.v fun _ => x1) 0 1048576))], [some ⟨50, 2, true, (.sym (.v fun _ => n) fun e => [(.int .i64 (.v fun _ => mkX X s x1 (e.den)) (-9223372036854775808) 9223372036854775807), (.int .i64 (.v fun _ => mkY Y s x1 (e.den)) (-9223372036854775808) 9223372036854775807)])⟩], 1⟩) (fun x1 => 0 ≤ x1 ∧ x1 ≤ n) (fun x1 => (n - x1).toNat) fun x1 => (.ite (.need (.need (.need (.need (.next [0]))))) (.out .ret)))) (G := ((0 ≤ n ∧ n ≤ 1048576) ∧ (0 ≤ s ∧ s ≤ 1048576)) → (∀ e9 : E, ((0 ≤ e9.den ∧ e9.den < n) → (((-9223372036854775808) ≤ ((X (e9.den))) ∧ ((X (e9.den))) ≤ 9223372036854775807) ∧ ((-9223372036854775808) ≤ ((Y (e9.den))) ∧ ((Y (e9.den))) ≤ 9223372036854775807)))) → ((∃ y2 : Int, ((0 ≤ y2 ∧ y2 ≤ n) ∧ (((n = n) ∧ ((s = (s + 2 * y2)) ∧ ((0 : Int) = y2))) ∧ ((n ≤ n) ∧ (∀ e3 : E, ((0 ≤ e3.den ∧ e3.den < n) → ((((X (e3.den))) = (mkX X s y2 (e3.den))) ∧ (((Y (e3.den))) = (mkY Y s y2 (e3.den)))))))))) ∧ (∀ x1 : Int, ((0 ≤ x1 ∧ x1 ≤ n) → (((x1 < n) → ((((0 ≤ x1) ∧ (x1 < n))) ∧ ((x1 < n) ∧ ((((0 ≤ x1) ∧ (x1 < n))) ∧ ((x1 < n) ∧ (∃ y4 : Int, ((0 ≤ y4 ∧ y4 ≤ n) ∧ ((((n = n) ∧ ((((((s + 2 * x1) + 1) + 1) = (s + 2 * y4)) ∧ ((2 ≤ (((s + 2 * x1) + 1) + 1) ∧ (((s + 2 * x1) + 1) + 1) ≤ 4194306) → (0 ≤ (s + 2 * y4) ∧ (s + 2 * y4) ≤ 4194304))) ∧ (((x1 + 1) = y4) ∧ ((1 ≤ (x1 + 1) ∧ (x1 + 1) ≤ 1048577) → (0 ≤ y4 ∧ y4 ≤ 1048576))))) ∧ ((n = n) ∧ (((∀ e6 : E, ((0 ≤ e6.den ∧ e6.den < n ∧ e6.den ≠ x1 ∧ e6.den ≠ x1) → (((mkX X s x1 (e6.den)) = (mkX X s y4 (e6.den))) ∧ ((mkY Y s x1 (e6.den)) = (mkY Y s y4 (e6.den)))))) ∧ (∀ e7 : E, ((e7.den.toNat = (x1 : Int).toNat ∧ 0 ≤ e7.den ∧ e7.den ≠ x1) → (((s + 2 * x1) = (mkX X s y4 (e7.den))) ∧ ((mkY Y s x1 (x1)) = (mkY Y s y4 (e7.den))))))) ∧ (∀ e5 : E, ((e5.den.toNat = (x1 : Int).toNat ∧ 0 ≤ e5.den) → (((if decide ((x1 : Int).toNat = (x1 : Int).toNat) = true then (s + 2 * x1) else (mkX X s x1 (x1))) = (mkX X s y4 (e5.den))) ∧ (((s + 2 * x1) + 1) = (mkY Y s y4 (e5.den))))))))) ∧ ((n - y4).toNat < (n - x1).toNat))))))))) ∧ ((n ≤ x1) → (((s + 2 * x1) = (s + 2 * n)) ∧ ((n ≤ n) ∧ (∀ e8 : E, ((0 ≤ e8.den ∧ e8.den < n) → ((((mkX X s x1 (e8.den)) = (s + 2 * e8.den)) ∧ (((-9223372036854775808) ≤ (mkX X s x1 (e8.den)) ∧ (mkX X s x1 (e8.den)) ≤ 9223372036854775807) → (0 ≤ (s + 2 * e8.den) ∧ (s + 2 * e8.den) ≤ 4194304))) ∧ (((mkY Y s x1 (e8.den)) = (s + 2 * e8.den + 1)) ∧ (((-9223372036854775808) ≤ (mkY Y s x1 (e8.den)) ∧ (mkY Y s x1 (e8.den)) ≤ 9223372036854775807) → (0 ≤ (s + 2 * e8.den + 1) ∧ (s + 2 * e8.den + 1) ≤ 4194304)))))))))))))) (by kernel_rfl) ?_
  intro h1 h2
  refine ⟨?_, ?_⟩
  · refine ⟨0, ?_⟩
    try dsimp only
    refine ⟨?_, ?_, Int.le_refl _, ?_⟩
    · omega
    · refine ⟨rfl, ?_, ?_⟩
      · omega
      · rfl
    · intro e3
      intro c10
      refine ⟨?_, ?_⟩
      · simp [mkX, mkY, *]; omega
      · simp [mkX, mkY, *]; omega
  · intro j
    intro I1
    refine ⟨?_, ?_⟩
    · intro c11
      refine ⟨?_, ?_, ?_, ?_, ?_⟩
      · omega
      · omega
      · omega
      · omega
      · refine ⟨j + 1, ?_⟩
        try dsimp only
        refine ⟨?_, ?_, ?_⟩
        · omega
        · refine ⟨?_, rfl, ?_, ?_⟩
          · refine ⟨rfl, ?_, ?_, ?_⟩
            · refine ⟨?_, ?_⟩
              · omega
              · intro c12
                omega
            · rfl
            · intro c13
              omega
          · refine ⟨?_, ?_⟩
            · intro e6
              intro c14
              refine ⟨?_, ?_⟩
              · simp [mkX, mkY, *]; omega
              · simp [mkX, mkY, *]; omega
            · intro e7
              intro c15
              refine ⟨?_, ?_⟩
              · omega
              · omega
          · intro e5
            intro c16
            refine ⟨?_, ?_⟩
            · simp [mkX, mkY, *]; omega
            · simp [mkX, mkY, *]; omega
        · omega
    · intro c17
      refine ⟨?_, Int.le_refl _, ?_⟩
      · omega
      · intro e8
        intro c18
        refine ⟨?_, ?_, ?_⟩
        · refine ⟨?_, ?_⟩
          · simp [mkX, mkY, *]; omega
          · intro c19
            omega
        · simp [mkX, mkY, *]; omega
        · intro c20
          omega
def c_l_markPointS (X : Int → Int) (Y : Int → Int) (n : Int) (s : Int) : Cn Try.prog := ⟨_, _, _, _, _, l_markPointS X Y n s⟩
def heldP (X Y : Int → Int) (n s : Int) : Bool := allB (fun i => decide (X i = s + 2 * i) && decide (Y i = s + 2 * i + 1)) n
theorem heldP_mark (n s : Int) : heldP (fun i => s + 2 * i) (fun i => s + 2 * i + 1) n s = true := allB_iff.2 fun i _ _ => by simp
end Go.Proofs.Ytcfkpdjbjfnnmaa
