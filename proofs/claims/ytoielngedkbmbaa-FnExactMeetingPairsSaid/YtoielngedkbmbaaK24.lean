/- What the exact laws of segments use: copies, comparisons. -/
import Derived.Test.YtoielngedkbmbaaK23
import Derived.Test.YtoielngedkbmbaaK10
set_option linter.unusedSimpArgs false
set_option linter.unusedVariables false
set_option maxRecDepth 100000
namespace Go.Proofs.Ytoielngedkbmbaa
open Go.Sym
def eqS (P Q R S : Int → Int) (n : Int) (P2 Q2 R2 S2 : Int → Int) (m : Int) : Bool := decide (n = m) && allB (fun i => (decide (P i = P2 i) && decide (Q i = Q2 i)) && (decide (R i = R2 i) && decide (S i = S2 i))) n
theorem eqS_refl (P Q R S : Int → Int) (n : Int) : eqS P Q R S n P Q R S n = true := by
  unfold eqS
  rw [decide_eq_true rfl, Bool.true_and]
  exact allB_iff.2 fun i _ _ => by simp
theorem l_toSegment (sAX : Int) (sAY : Int) (sBX : Int) (sBY : Int) : RunsTo Try.prog 26 [(.agg [(.int .i64 (.v fun _ => sAX) (-9223372036854775808) 9223372036854775807), (.int .i64 (.v fun _ => sAY) (-9223372036854775808) 9223372036854775807), (.int .i64 (.v fun _ => sBX) (-9223372036854775808) 9223372036854775807), (.int .i64 (.v fun _ => sBY) (-9223372036854775808) 9223372036854775807)])] [] (.agg [(.int .i64 (.v fun _ => sAX) (-9223372036854775808) 9223372036854775807), (.int .i64 (.v fun _ => sAY) (-9223372036854775808) 9223372036854775807), (.int .i64 (.v fun _ => sBX) (-9223372036854775808) 9223372036854775807), (.int .i64 (.v fun _ => sBY) (-9223372036854775808) 9223372036854775807)]) [] := by
  refine RunsTo.go env Try.func26 rfl Try.call26 rfl rfl (fun _ _ => (.call (c_l_toPoint sAX sAY) (.call (c_l_toPoint sBX sBY) .ret))) (G := (((-9223372036854775808) ≤ sAX ∧ sAX ≤ 9223372036854775807) ∧ (((-9223372036854775808) ≤ sAY ∧ sAY ≤ 9223372036854775807) ∧ (((-9223372036854775808) ≤ sBX ∧ sBX ≤ 9223372036854775807) ∧ ((-9223372036854775808) ≤ sBY ∧ sBY ≤ 9223372036854775807)))) → (True) → (((sAX = sAX) ∧ (sAY = sAY)) ∧ (((sBX = sBX) ∧ (sBY = sBY)) ∧ ((sAX = sAX) ∧ ((sAY = sAY) ∧ ((sBX = sBX) ∧ (sBY = sBY))))))) (by kernel_rfl) ?_
  intro h1 h2
  exact ⟨⟨rfl, rfl⟩, ⟨⟨rfl, rfl⟩, ⟨rfl, ⟨rfl, ⟨rfl, rfl⟩⟩⟩⟩⟩
def c_l_toSegment (sAX : Int) (sAY : Int) (sBX : Int) (sBY : Int) : Cn Try.prog := ⟨_, _, _, _, _, l_toSegment sAX sAY sBX sBY⟩
theorem l_szSegmentS (P : Int → Int) (Q : Int → Int) (R : Int → Int) (S : Int → Int) (n : Int) (t : Int) : RunsTo Try.prog 42 [(.sl 0 4 (.lit 0) (.v fun _ => n) 9223372036854775807), (.int .i64 (.v fun _ => t) 0 1048576)] [some ⟨42, 4, false, (.sym (.v fun _ => n) fun e => [(.int .i64 (.v fun _ => (P (e.den))) (-9223372036854775808) 9223372036854775807), (.int .i64 (.v fun _ => (Q (e.den))) (-9223372036854775808) 9223372036854775807), (.int .i64 (.v fun _ => (R (e.den))) (-9223372036854775808) 9223372036854775807), (.int .i64 (.v fun _ => (S (e.den))) (-9223372036854775808) 9223372036854775807)])⟩] (.int .i64 (.v fun _ => if t - n < 0 then -1 else t - n) (-1) 1048576) [some ⟨42, 4, false, (.sym (.v fun _ => n) fun e => [(.int .i64 (.v fun _ => (P (e.den))) (-9223372036854775808) 9223372036854775807), (.int .i64 (.v fun _ => (Q (e.den))) (-9223372036854775808) 9223372036854775807), (.int .i64 (.v fun _ => (R (e.den))) (-9223372036854775808) 9223372036854775807), (.int .i64 (.v fun _ => (S (e.den))) (-9223372036854775808) 9223372036854775807)])⟩] := by
  refine RunsTo.go env Try.func42 rfl Try.call42 rfl rfl (fun _ _ => (.ite .ret .ret)) (G := ((0 ≤ n ∧ n ≤ 9223372036854775807) ∧ (0 ≤ t ∧ t ≤ 1048576)) → (∀ e3 : E, ((0 ≤ e3.den ∧ e3.den < n) → (((-9223372036854775808) ≤ ((P (e3.den))) ∧ ((P (e3.den))) ≤ 9223372036854775807) ∧ (((-9223372036854775808) ≤ ((Q (e3.den))) ∧ ((Q (e3.den))) ≤ 9223372036854775807) ∧ (((-9223372036854775808) ≤ ((R (e3.den))) ∧ ((R (e3.den))) ≤ 9223372036854775807) ∧ ((-9223372036854775808) ≤ ((S (e3.den))) ∧ ((S (e3.den))) ≤ 9223372036854775807)))))) → ((((t - n) < 0) → ((((-1) : Int) = (if t - n < 0 then -1 else t - n)) ∧ ((n ≤ n) ∧ (∀ e1 : E, ((0 ≤ e1.den ∧ e1.den < n) → ((((P (e1.den))) = ((P (e1.den)))) ∧ ((((Q (e1.den))) = ((Q (e1.den)))) ∧ ((((R (e1.den))) = ((R (e1.den)))) ∧ (((S (e1.den))) = ((S (e1.den)))))))))))) ∧ ((0 ≤ (t - n)) → ((((t - n) = (if t - n < 0 then -1 else t - n)) ∧ (((-9223372036854775807) ≤ (t - n) ∧ (t - n) ≤ 1048576) → ((-1) ≤ (if t - n < 0 then -1 else t - n) ∧ (if t - n < 0 then -1 else t - n) ≤ 1048576))) ∧ ((n ≤ n) ∧ (∀ e2 : E, ((0 ≤ e2.den ∧ e2.den < n) → ((((P (e2.den))) = ((P (e2.den)))) ∧ ((((Q (e2.den))) = ((Q (e2.den)))) ∧ ((((R (e2.den))) = ((R (e2.den)))) ∧ (((S (e2.den))) = ((S (e2.den)))))))))))))) (by kernel_rfl) ?_
  intro h1 h2
  refine ⟨?_, ?_⟩
  · intro c4
    refine ⟨?_, Int.le_refl _, fun _ => fun _ => ⟨rfl, ⟨rfl, ⟨rfl, rfl⟩⟩⟩⟩
    omega
  · intro c5
    refine ⟨?_, Int.le_refl _, fun _ => fun _ => ⟨rfl, ⟨rfl, ⟨rfl, rfl⟩⟩⟩⟩
    refine ⟨?_, ?_⟩
    · omega
    · intro c6
      omega
def c_l_szSegmentS (P : Int → Int) (Q : Int → Int) (R : Int → Int) (S : Int → Int) (n : Int) (t : Int) : Cn Try.prog := ⟨_, _, _, _, _, l_szSegmentS P Q R S n t⟩
theorem l_toSegmentS (P : Int → Int) (Q : Int → Int) (R : Int → Int) (S : Int → Int) (n : Int) : RunsTo Try.prog 44 [(.sl 0 4 (.lit 0) (.v fun _ => n) 1048576)] [some ⟨42, 4, false, (.sym (.v fun _ => n) fun e => [(.int .i64 (.v fun _ => (P (e.den))) (-9223372036854775808) 9223372036854775807), (.int .i64 (.v fun _ => (Q (e.den))) (-9223372036854775808) 9223372036854775807), (.int .i64 (.v fun _ => (R (e.den))) (-9223372036854775808) 9223372036854775807), (.int .i64 (.v fun _ => (S (e.den))) (-9223372036854775808) 9223372036854775807)])⟩] (.sl 1 4 (.lit 0) (.v fun _ => n) 1048576) [some ⟨42, 4, false, (.sym (.v fun _ => n) fun e => [(.int .i64 (.v fun _ => (P (e.den))) (-9223372036854775808) 9223372036854775807), (.int .i64 (.v fun _ => (Q (e.den))) (-9223372036854775808) 9223372036854775807), (.int .i64 (.v fun _ => (R (e.den))) (-9223372036854775808) 9223372036854775807), (.int .i64 (.v fun _ => (S (e.den))) (-9223372036854775808) 9223372036854775807)])⟩, some ⟨45, 4, true, (.sym (.v fun _ => n) fun e => [(.int .i64 (.v fun _ => (P (e.den))) (-9223372036854775808) 9223372036854775807), (.int .i64 (.v fun _ => (Q (e.den))) (-9223372036854775808) 9223372036854775807), (.int .i64 (.v fun _ => (R (e.den))) (-9223372036854775808) 9223372036854775807), (.int .i64 (.v fun _ => (S (e.den))) (-9223372036854775808) 9223372036854775807)])⟩] := by
  refine RunsTo.go env Try.func44 rfl Try.call44 rfl rfl (fun _ _ => (.need (.loop [] [0, 1] (Int) (fun x1 => ⟨spl 23 0 [(0, (.sl 0 4 (.lit 0) (.v fun _ => n) 1048576)), (2, (.raw (.slice none 0 0))), (3, (.sl 1 4 (.lit 0) (.v fun _ => n) 1048576)), (4, (.int .i64 (.v fun _ => x1) 0 1048576))], [some ⟨42, 4, false, (.sym (.v fun _ => n) fun e => [(.int .i64 (.v fun _ => (P (e.den))) (-9223372036854775808) 9223372036854775807), (.int .i64 (.v fun _ => (Q (e.den))) (-9223372036854775808) 9223372036854775807), (.int .i64 (.v fun _ => (R (e.den))) (-9223372036854775808) 9223372036854775807), (.int .i64 (.v fun _ => (S (e.den))) (-9223372036854775808) 9223372036854775807)])⟩, some ⟨45, 4, true, (.sym (.v fun _ => n) fun e => [(.int .i64 (.v fun _ => cpy P x1 (e.den)) (-9223372036854775808) 9223372036854775807), (.int .i64 (.v fun _ => cpy Q x1 (e.den)) (-9223372036854775808) 9223372036854775807), (.int .i64 (.v fun _ => cpy R x1 (e.den)) (-9223372036854775808) 9223372036854775807), (.int .i64 (.v fun _ => cpy S x1 (e.den)) (-9223372036854775808) 9223372036854775807)])⟩], 1⟩) (fun x1 => 0 ≤ x1 ∧ x1 ≤ n) (fun x1 => (n - x1).toNat) fun x1 => (.ite (.need (.need (.call (c_l_toSegment ((P (x1))) ((Q (x1))) ((R (x1))) ((S (x1)))) (.need (.need (.next [0, 1])))))) (.out .ret))))) (G := (0 ≤ n ∧ n ≤ 1048576) → (∀ e11 : E, ((0 ≤ e11.den ∧ e11.den < n) → (((-9223372036854775808) ≤ ((P (e11.den))) ∧ ((P (e11.den))) ≤ 9223372036854775807) ∧ (((-9223372036854775808) ≤ ((Q (e11.den))) ∧ ((Q (e11.den))) ≤ 9223372036854775807) ∧ (((-9223372036854775808) ≤ ((R (e11.den))) ∧ ((R (e11.den))) ≤ 9223372036854775807) ∧ ((-9223372036854775808) ≤ ((S (e11.den))) ∧ ((S (e11.den))) ≤ 9223372036854775807)))))) → ((n ≤ n) ∧ ((∃ y2 : Int, ((0 ≤ y2 ∧ y2 ≤ n) ∧ (((n = n) ∧ ((((.slice none 0 0) : Value) = (.slice none 0 0)) ∧ ((n = n) ∧ ((0 : Int) = y2)))) ∧ (((n ≤ n) ∧ (∀ e4 : E, ((0 ≤ e4.den ∧ e4.den < n) → ((((P (e4.den))) = ((P (e4.den)))) ∧ ((((Q (e4.den))) = ((Q (e4.den)))) ∧ ((((R (e4.den))) = ((R (e4.den)))) ∧ (((S (e4.den))) = ((S (e4.den)))))))))) ∧ ((n ≤ n) ∧ (∀ e3 : E, ((0 ≤ e3.den ∧ e3.den < n) → (((0 : Int) = (cpy P y2 (e3.den))) ∧ (((0 : Int) = (cpy Q y2 (e3.den))) ∧ (((0 : Int) = (cpy R y2 (e3.den))) ∧ ((0 : Int) = (cpy S y2 (e3.den))))))))))))) ∧ (∀ x1 : Int, ((0 ≤ x1 ∧ x1 ≤ n) → (((x1 < n) → ((((0 ≤ x1) ∧ (x1 < n))) ∧ ((x1 < n) ∧ (((((P (x1))) = ((P (x1)))) ∧ ((((Q (x1))) = ((Q (x1)))) ∧ ((((R (x1))) = ((R (x1)))) ∧ (((S (x1))) = ((S (x1))))))) ∧ ((((0 ≤ x1) ∧ (x1 < n))) ∧ ((x1 < n) ∧ (∃ y5 : Int, ((0 ≤ y5 ∧ y5 ≤ n) ∧ ((((n = n) ∧ ((((.slice none 0 0) : Value) = (.slice none 0 0)) ∧ ((n = n) ∧ (((x1 + 1) = y5) ∧ ((1 ≤ (x1 + 1) ∧ (x1 + 1) ≤ 1048577) → (0 ≤ y5 ∧ y5 ≤ 1048576)))))) ∧ (((n ≤ n) ∧ (∀ e8 : E, ((0 ≤ e8.den ∧ e8.den < n) → ((((P (e8.den))) = ((P (e8.den)))) ∧ ((((Q (e8.den))) = ((Q (e8.den)))) ∧ ((((R (e8.den))) = ((R (e8.den)))) ∧ (((S (e8.den))) = ((S (e8.den)))))))))) ∧ ((n = n) ∧ ((∀ e7 : E, ((0 ≤ e7.den ∧ e7.den < n ∧ e7.den ≠ x1) → (((cpy P x1 (e7.den)) = (cpy P y5 (e7.den))) ∧ (((cpy Q x1 (e7.den)) = (cpy Q y5 (e7.den))) ∧ (((cpy R x1 (e7.den)) = (cpy R y5 (e7.den))) ∧ ((cpy S x1 (e7.den)) = (cpy S y5 (e7.den)))))))) ∧ (∀ e6 : E, ((e6.den.toNat = (x1 : Int).toNat ∧ 0 ≤ e6.den) → ((((P (x1))) = (cpy P y5 (e6.den))) ∧ ((((Q (x1))) = (cpy Q y5 (e6.den))) ∧ ((((R (x1))) = (cpy R y5 (e6.den))) ∧ (((S (x1))) = (cpy S y5 (e6.den)))))))))))) ∧ ((n - y5).toNat < (n - x1).toNat)))))))))) ∧ ((n ≤ x1) → ((n = n) ∧ (((n ≤ n) ∧ (∀ e10 : E, ((0 ≤ e10.den ∧ e10.den < n) → ((((P (e10.den))) = ((P (e10.den)))) ∧ ((((Q (e10.den))) = ((Q (e10.den)))) ∧ ((((R (e10.den))) = ((R (e10.den)))) ∧ (((S (e10.den))) = ((S (e10.den)))))))))) ∧ ((n ≤ n) ∧ (∀ e9 : E, ((0 ≤ e9.den ∧ e9.den < n) → (((cpy P x1 (e9.den)) = ((P (e9.den)))) ∧ (((cpy Q x1 (e9.den)) = ((Q (e9.den)))) ∧ (((cpy R x1 (e9.den)) = ((R (e9.den)))) ∧ ((cpy S x1 (e9.den)) = ((S (e9.den))))))))))))))))))) (by kernel_rfl) ?_
  intro h1 h2
  refine ⟨?_, ?_, ?_⟩
  · omega
  · refine ⟨0, ?_⟩
    try dsimp only
    refine ⟨?_, ?_, ⟨Int.le_refl _, fun _ => fun _ => ⟨rfl, ⟨rfl, ⟨rfl, rfl⟩⟩⟩⟩, Int.le_refl _, ?_⟩
    · omega
    · refine ⟨rfl, rfl, rfl, ?_⟩
      rfl
    · intro e3
      intro c12
      refine ⟨?_, ?_, ?_, ?_⟩
      · simp [cpy, *]; omega
      · simp [cpy, *]; omega
      · simp [cpy, *]; omega
      · simp [cpy, *]; omega
  · intro j
    intro I1
    refine ⟨?_, ?_⟩
    · intro c13
      refine ⟨?_, ?_, ⟨rfl, ⟨rfl, ⟨rfl, rfl⟩⟩⟩, ?_, ?_, ?_⟩
      · omega
      · omega
      · omega
      · omega
      · refine ⟨j + 1, ?_⟩
        try dsimp only
        refine ⟨?_, ?_, ?_⟩
        · omega
        · refine ⟨?_, ⟨Int.le_refl _, fun _ => fun _ => ⟨rfl, ⟨rfl, ⟨rfl, rfl⟩⟩⟩⟩, rfl, ?_, ?_⟩
          · refine ⟨rfl, rfl, rfl, ?_, ?_⟩
            · rfl
            · intro c14
              omega
          · intro e7
            intro c15
            refine ⟨?_, ?_, ?_, ?_⟩
            · simp [cpy, *]; omega
            · simp [cpy, *]; omega
            · simp [cpy, *]; omega
            · simp [cpy, *]; omega
          · intro e6
            intro c16
            refine ⟨?_, ?_, ?_, ?_⟩
            · simp only [cpy]; rw [if_pos (by omega)]; congr 1; omega
            · simp only [cpy]; rw [if_pos (by omega)]; congr 1; omega
            · simp only [cpy]; rw [if_pos (by omega)]; congr 1; omega
            · simp only [cpy]; rw [if_pos (by omega)]; congr 1; omega
        · omega
    · intro c17
      refine ⟨rfl, ⟨Int.le_refl _, fun _ => fun _ => ⟨rfl, ⟨rfl, ⟨rfl, rfl⟩⟩⟩⟩, Int.le_refl _, ?_⟩
      intro e9
      intro c18
      refine ⟨?_, ?_, ?_, ?_⟩
      · simp [cpy, *]; omega
      · simp [cpy, *]; omega
      · simp [cpy, *]; omega
      · simp [cpy, *]; omega
def c_l_toSegmentS (P : Int → Int) (Q : Int → Int) (R : Int → Int) (S : Int → Int) (n : Int) : Cn Try.prog := ⟨_, _, _, _, _, l_toSegmentS P Q R S n⟩
theorem l_eqSegment (sAX : Int) (sAY : Int) (sBX : Int) (sBY : Int) (tAX : Int) (tAY : Int) (tBX : Int) (tBY : Int) : RunsTo Try.prog 107 [(.agg [(.int .i64 (.v fun _ => sAX) (-9223372036854775808) 9223372036854775807), (.int .i64 (.v fun _ => sAY) (-9223372036854775808) 9223372036854775807), (.int .i64 (.v fun _ => sBX) (-9223372036854775808) 9223372036854775807), (.int .i64 (.v fun _ => sBY) (-9223372036854775808) 9223372036854775807)]), (.agg [(.int .i64 (.v fun _ => tAX) (-9223372036854775808) 9223372036854775807), (.int .i64 (.v fun _ => tAY) (-9223372036854775808) 9223372036854775807), (.int .i64 (.v fun _ => tBX) (-9223372036854775808) 9223372036854775807), (.int .i64 (.v fun _ => tBY) (-9223372036854775808) 9223372036854775807)])] [] (.bool (.v fun _ => (decide (sAX = tAX) && decide (sAY = tAY)) && (decide (sBX = tBX) && decide (sBY = tBY)))) [] := by
  refine RunsTo.go env Try.func107 rfl Try.call107 rfl rfl (fun _ _ => (.call (c_l_eqPoint sAX sAY tAX tAY) (.ite .ret (.call (c_l_eqPoint sBX sBY tBX tBY) (.ite .ret .ret))))) (G := ((((-9223372036854775808) ≤ sAX ∧ sAX ≤ 9223372036854775807) ∧ (((-9223372036854775808) ≤ sAY ∧ sAY ≤ 9223372036854775807) ∧ (((-9223372036854775808) ≤ sBX ∧ sBX ≤ 9223372036854775807) ∧ ((-9223372036854775808) ≤ sBY ∧ sBY ≤ 9223372036854775807)))) ∧ (((-9223372036854775808) ≤ tAX ∧ tAX ≤ 9223372036854775807) ∧ (((-9223372036854775808) ≤ tAY ∧ tAY ≤ 9223372036854775807) ∧ (((-9223372036854775808) ≤ tBX ∧ tBX ≤ 9223372036854775807) ∧ ((-9223372036854775808) ≤ tBY ∧ tBY ≤ 9223372036854775807))))) → (True) → ((((sAX = sAX) ∧ (sAY = sAY)) ∧ ((tAX = tAX) ∧ (tAY = tAY))) ∧ ((((decide (sAX = tAX) && decide (sAY = tAY)) = false) → (((decide (sAX = tAX) && decide (sAY = tAY)) && (decide (sBX = tBX) && decide (sBY = tBY))) = false)) ∧ (((decide (sAX = tAX) && decide (sAY = tAY)) = true) → ((((sBX = sBX) ∧ (sBY = sBY)) ∧ ((tBX = tBX) ∧ (tBY = tBY))) ∧ ((((decide (sBX = tBX) && decide (sBY = tBY)) = false) → (((decide (sAX = tAX) && decide (sAY = tAY)) && (decide (sBX = tBX) && decide (sBY = tBY))) = false)) ∧ (((decide (sBX = tBX) && decide (sBY = tBY)) = true) → (((decide (sAX = tAX) && decide (sAY = tAY)) && (decide (sBX = tBX) && decide (sBY = tBY))) = true)))))))) (by kernel_rfl) ?_
  intro h1 h2
  refine ⟨⟨⟨rfl, rfl⟩, ⟨rfl, rfl⟩⟩, ?_, ?_⟩
  · intro c1
    simp_all; done
  · intro c2
    refine ⟨⟨⟨rfl, rfl⟩, ⟨rfl, rfl⟩⟩, ?_, ?_⟩
    · intro c3
      simp_all; done
    · intro c4
      simp_all; done
def c_l_eqSegment (sAX : Int) (sAY : Int) (sBX : Int) (sBY : Int) (tAX : Int) (tAY : Int) (tBX : Int) (tBY : Int) : Cn Try.prog := ⟨_, _, _, _, _, l_eqSegment sAX sAY sBX sBY tAX tAY tBX tBY⟩
theorem l_eqSegmentS (P : Int → Int) (Q : Int → Int) (R : Int → Int) (S : Int → Int) (n : Int) (P2 : Int → Int) (Q2 : Int → Int) (R2 : Int → Int) (S2 : Int → Int) (m : Int) : RunsTo Try.prog 46 [(.sl 0 4 (.lit 0) (.v fun _ => n) 1048576), (.sl 1 4 (.lit 0) (.v fun _ => m) 1048576)] [some ⟨45, 4, true, (.sym (.v fun _ => n) fun e => [(.int .i64 (.v fun _ => (P (e.den))) (-9223372036854775808) 9223372036854775807), (.int .i64 (.v fun _ => (Q (e.den))) (-9223372036854775808) 9223372036854775807), (.int .i64 (.v fun _ => (R (e.den))) (-9223372036854775808) 9223372036854775807), (.int .i64 (.v fun _ => (S (e.den))) (-9223372036854775808) 9223372036854775807)])⟩, some ⟨45, 4, true, (.sym (.v fun _ => m) fun e => [(.int .i64 (.v fun _ => (P2 (e.den))) (-9223372036854775808) 9223372036854775807), (.int .i64 (.v fun _ => (Q2 (e.den))) (-9223372036854775808) 9223372036854775807), (.int .i64 (.v fun _ => (R2 (e.den))) (-9223372036854775808) 9223372036854775807), (.int .i64 (.v fun _ => (S2 (e.den))) (-9223372036854775808) 9223372036854775807)])⟩] (.bool (.v fun _ => eqS P Q R S n P2 Q2 R2 S2 m)) [some ⟨45, 4, true, (.sym (.v fun _ => n) fun e => [(.int .i64 (.v fun _ => (P (e.den))) (-9223372036854775808) 9223372036854775807), (.int .i64 (.v fun _ => (Q (e.den))) (-9223372036854775808) 9223372036854775807), (.int .i64 (.v fun _ => (R (e.den))) (-9223372036854775808) 9223372036854775807), (.int .i64 (.v fun _ => (S (e.den))) (-9223372036854775808) 9223372036854775807)])⟩, some ⟨45, 4, true, (.sym (.v fun _ => m) fun e => [(.int .i64 (.v fun _ => (P2 (e.den))) (-9223372036854775808) 9223372036854775807), (.int .i64 (.v fun _ => (Q2 (e.den))) (-9223372036854775808) 9223372036854775807), (.int .i64 (.v fun _ => (R2 (e.den))) (-9223372036854775808) 9223372036854775807), (.int .i64 (.v fun _ => (S2 (e.den))) (-9223372036854775808) 9223372036854775807)])⟩] := by
  refine RunsTo.go env Try.func46 rfl Try.call46 rfl rfl (fun _ _ => (.ite .ret (.loop [] [0, 1] (Int) (fun x3 => ⟨spl 27 0 [(0, (.sl 0 4 (.lit 0) (.v fun _ => n) 1048576)), (1, (.sl 1 4 (.lit 0) (.v fun _ => m) 1048576)), (5, (.int .i64 (.v fun _ => x3) 0 1048576))], [some ⟨45, 4, true, (.sym (.v fun _ => n) fun e => [(.int .i64 (.v fun _ => (P (e.den))) (-9223372036854775808) 9223372036854775807), (.int .i64 (.v fun _ => (Q (e.den))) (-9223372036854775808) 9223372036854775807), (.int .i64 (.v fun _ => (R (e.den))) (-9223372036854775808) 9223372036854775807), (.int .i64 (.v fun _ => (S (e.den))) (-9223372036854775808) 9223372036854775807)])⟩, some ⟨45, 4, true, (.sym (.v fun _ => m) fun e => [(.int .i64 (.v fun _ => (P2 (e.den))) (-9223372036854775808) 9223372036854775807), (.int .i64 (.v fun _ => (Q2 (e.den))) (-9223372036854775808) 9223372036854775807), (.int .i64 (.v fun _ => (R2 (e.den))) (-9223372036854775808) 9223372036854775807), (.int .i64 (.v fun _ => (S2 (e.den))) (-9223372036854775808) 9223372036854775807)])⟩], 2⟩) (fun x3 => (0 ≤ x3 ∧ x3 ≤ n) ∧ ∀ i, 0 ≤ i → i < x3 → ((decide ((P (i)) = (P2 (i))) && decide ((Q (i)) = (Q2 (i)))) && (decide ((R (i)) = (R2 (i))) && decide ((S (i)) = (S2 (i))))) = true) (fun x3 => (n - x3).toNat) fun x3 => (.ite (.need (.need (.need (.need (.call (c_l_eqSegment ((P (x3))) ((Q (x3))) ((R (x3))) ((S (x3))) ((P2 (x3))) ((Q2 (x3))) ((R2 (x3))) ((S2 (x3)))) (.ite (.out .ret) (.next [0, 1]))))))) (.out .ret))))) (G := ((0 ≤ n ∧ n ≤ 1048576) ∧ (0 ≤ m ∧ m ≤ 1048576)) → ((∀ e15 : E, ((0 ≤ e15.den ∧ e15.den < n) → (((-9223372036854775808) ≤ ((P (e15.den))) ∧ ((P (e15.den))) ≤ 9223372036854775807) ∧ (((-9223372036854775808) ≤ ((Q (e15.den))) ∧ ((Q (e15.den))) ≤ 9223372036854775807) ∧ (((-9223372036854775808) ≤ ((R (e15.den))) ∧ ((R (e15.den))) ≤ 9223372036854775807) ∧ ((-9223372036854775808) ≤ ((S (e15.den))) ∧ ((S (e15.den))) ≤ 9223372036854775807)))))) ∧ (∀ e14 : E, ((0 ≤ e14.den ∧ e14.den < m) → (((-9223372036854775808) ≤ ((P2 (e14.den))) ∧ ((P2 (e14.den))) ≤ 9223372036854775807) ∧ (((-9223372036854775808) ≤ ((Q2 (e14.den))) ∧ ((Q2 (e14.den))) ≤ 9223372036854775807) ∧ (((-9223372036854775808) ≤ ((R2 (e14.den))) ∧ ((R2 (e14.den))) ≤ 9223372036854775807) ∧ ((-9223372036854775808) ≤ ((S2 (e14.den))) ∧ ((S2 (e14.den))) ≤ 9223372036854775807))))))) → (((n ≠ m) → (((eqS P Q R S n P2 Q2 R2 S2 m) = false) ∧ (((n ≤ n) ∧ (∀ e2 : E, ((0 ≤ e2.den ∧ e2.den < n) → ((((P (e2.den))) = ((P (e2.den)))) ∧ ((((Q (e2.den))) = ((Q (e2.den)))) ∧ ((((R (e2.den))) = ((R (e2.den)))) ∧ (((S (e2.den))) = ((S (e2.den)))))))))) ∧ ((m ≤ m) ∧ (∀ e1 : E, ((0 ≤ e1.den ∧ e1.den < m) → ((((P2 (e1.den))) = ((P2 (e1.den)))) ∧ ((((Q2 (e1.den))) = ((Q2 (e1.den)))) ∧ ((((R2 (e1.den))) = ((R2 (e1.den)))) ∧ (((S2 (e1.den))) = ((S2 (e1.den))))))))))))) ∧ ((n = m) → ((∃ y4 : Int, (((0 ≤ y4 ∧ y4 ≤ n) ∧ ∀ i, 0 ≤ i → i < y4 → ((decide ((P (i)) = (P2 (i))) && decide ((Q (i)) = (Q2 (i)))) && (decide ((R (i)) = (R2 (i))) && decide ((S (i)) = (S2 (i))))) = true) ∧ (((n = n) ∧ ((m = m) ∧ ((0 : Int) = y4))) ∧ (((n ≤ n) ∧ (∀ e6 : E, ((0 ≤ e6.den ∧ e6.den < n) → ((((P (e6.den))) = ((P (e6.den)))) ∧ ((((Q (e6.den))) = ((Q (e6.den)))) ∧ ((((R (e6.den))) = ((R (e6.den)))) ∧ (((S (e6.den))) = ((S (e6.den)))))))))) ∧ ((m ≤ m) ∧ (∀ e5 : E, ((0 ≤ e5.den ∧ e5.den < m) → ((((P2 (e5.den))) = ((P2 (e5.den)))) ∧ ((((Q2 (e5.den))) = ((Q2 (e5.den)))) ∧ ((((R2 (e5.den))) = ((R2 (e5.den)))) ∧ (((S2 (e5.den))) = ((S2 (e5.den)))))))))))))) ∧ (∀ x3 : Int, (((0 ≤ x3 ∧ x3 ≤ n) ∧ ∀ i, 0 ≤ i → i < x3 → ((decide ((P (i)) = (P2 (i))) && decide ((Q (i)) = (Q2 (i)))) && (decide ((R (i)) = (R2 (i))) && decide ((S (i)) = (S2 (i))))) = true) → (((x3 < n) → ((((0 ≤ x3) ∧ (x3 < n))) ∧ ((x3 < n) ∧ ((((0 ≤ x3) ∧ (x3 < m))) ∧ ((x3 < m) ∧ ((((((P (x3))) = ((P (x3)))) ∧ ((((Q (x3))) = ((Q (x3)))) ∧ ((((R (x3))) = ((R (x3)))) ∧ (((S (x3))) = ((S (x3))))))) ∧ ((((P2 (x3))) = ((P2 (x3)))) ∧ ((((Q2 (x3))) = ((Q2 (x3)))) ∧ ((((R2 (x3))) = ((R2 (x3)))) ∧ (((S2 (x3))) = ((S2 (x3)))))))) ∧ (((((decide (((P (x3))) = ((P2 (x3)))) && decide (((Q (x3))) = ((Q2 (x3))))) && (decide (((R (x3))) = ((R2 (x3)))) && decide (((S (x3))) = ((S2 (x3)))))) = false) → (((eqS P Q R S n P2 Q2 R2 S2 m) = false) ∧ (((n ≤ n) ∧ (∀ e8 : E, ((0 ≤ e8.den ∧ e8.den < n) → ((((P (e8.den))) = ((P (e8.den)))) ∧ ((((Q (e8.den))) = ((Q (e8.den)))) ∧ ((((R (e8.den))) = ((R (e8.den)))) ∧ (((S (e8.den))) = ((S (e8.den)))))))))) ∧ ((m ≤ m) ∧ (∀ e7 : E, ((0 ≤ e7.den ∧ e7.den < m) → ((((P2 (e7.den))) = ((P2 (e7.den)))) ∧ ((((Q2 (e7.den))) = ((Q2 (e7.den)))) ∧ ((((R2 (e7.den))) = ((R2 (e7.den)))) ∧ (((S2 (e7.den))) = ((S2 (e7.den))))))))))))) ∧ ((((decide (((P (x3))) = ((P2 (x3)))) && decide (((Q (x3))) = ((Q2 (x3))))) && (decide (((R (x3))) = ((R2 (x3)))) && decide (((S (x3))) = ((S2 (x3)))))) = true) → (∃ y9 : Int, (((0 ≤ y9 ∧ y9 ≤ n) ∧ ∀ i, 0 ≤ i → i < y9 → ((decide ((P (i)) = (P2 (i))) && decide ((Q (i)) = (Q2 (i)))) && (decide ((R (i)) = (R2 (i))) && decide ((S (i)) = (S2 (i))))) = true) ∧ ((((n = n) ∧ ((m = m) ∧ (((x3 + 1) = y9) ∧ ((1 ≤ (x3 + 1) ∧ (x3 + 1) ≤ 1048577) → (0 ≤ y9 ∧ y9 ≤ 1048576))))) ∧ (((n ≤ n) ∧ (∀ e11 : E, ((0 ≤ e11.den ∧ e11.den < n) → ((((P (e11.den))) = ((P (e11.den)))) ∧ ((((Q (e11.den))) = ((Q (e11.den)))) ∧ ((((R (e11.den))) = ((R (e11.den)))) ∧ (((S (e11.den))) = ((S (e11.den)))))))))) ∧ ((m ≤ m) ∧ (∀ e10 : E, ((0 ≤ e10.den ∧ e10.den < m) → ((((P2 (e10.den))) = ((P2 (e10.den)))) ∧ ((((Q2 (e10.den))) = ((Q2 (e10.den)))) ∧ ((((R2 (e10.den))) = ((R2 (e10.den)))) ∧ (((S2 (e10.den))) = ((S2 (e10.den)))))))))))) ∧ ((n - y9).toNat < (n - x3).toNat)))))))))))) ∧ ((n ≤ x3) → (((eqS P Q R S n P2 Q2 R2 S2 m) = true) ∧ (((n ≤ n) ∧ (∀ e13 : E, ((0 ≤ e13.den ∧ e13.den < n) → ((((P (e13.den))) = ((P (e13.den)))) ∧ ((((Q (e13.den))) = ((Q (e13.den)))) ∧ ((((R (e13.den))) = ((R (e13.den)))) ∧ (((S (e13.den))) = ((S (e13.den)))))))))) ∧ ((m ≤ m) ∧ (∀ e12 : E, ((0 ≤ e12.den ∧ e12.den < m) → ((((P2 (e12.den))) = ((P2 (e12.den)))) ∧ ((((Q2 (e12.den))) = ((Q2 (e12.den)))) ∧ ((((R2 (e12.den))) = ((R2 (e12.den)))) ∧ (((S2 (e12.den))) = ((S2 (e12.den)))))))))))))))))))) (by kernel_rfl) ?_
  intro h1 h2
  refine ⟨?_, ?_⟩
  · intro c16
    refine ⟨?_, ⟨Int.le_refl _, fun _ => fun _ => ⟨rfl, ⟨rfl, ⟨rfl, rfl⟩⟩⟩⟩, Int.le_refl _, fun _ => fun _ => ⟨rfl, ⟨rfl, ⟨rfl, rfl⟩⟩⟩⟩
    simp [eqS]; omega
  · intro c17
    refine ⟨?_, ?_⟩
    · refine ⟨0, ?_⟩
      try dsimp only
      refine ⟨?_, ?_, ⟨Int.le_refl _, fun _ => fun _ => ⟨rfl, ⟨rfl, ⟨rfl, rfl⟩⟩⟩⟩, Int.le_refl _, fun _ => fun _ => ⟨rfl, ⟨rfl, ⟨rfl, rfl⟩⟩⟩⟩
      · refine ⟨by omega, fun i a b => ?_⟩; first | (exfalso; omega) | (by_cases e : i = j; (subst e; assumption); exact I1.2 i a (by omega))
      · refine ⟨rfl, rfl, ?_⟩
        rfl
    · intro j
      intro I1
      refine ⟨?_, ?_⟩
      · intro c18
        refine ⟨?_, ?_, ?_, ?_, ⟨⟨rfl, ⟨rfl, ⟨rfl, rfl⟩⟩⟩, ⟨rfl, ⟨rfl, ⟨rfl, rfl⟩⟩⟩⟩, ?_, ?_⟩
        · omega
        · omega
        · omega
        · omega
        · intro c19
          refine ⟨?_, ⟨Int.le_refl _, fun _ => fun _ => ⟨rfl, ⟨rfl, ⟨rfl, rfl⟩⟩⟩⟩, Int.le_refl _, fun _ => fun _ => ⟨rfl, ⟨rfl, ⟨rfl, rfl⟩⟩⟩⟩
          simp only [eqS]; rw [allB_false (q := fun i => (decide (P i = P2 i) && decide (Q i = Q2 i)) && (decide (R i = R2 i) && decide (S i = S2 i))) I1.1.1 (by omega) (by assumption)]; simp; done
        · intro c20
          refine ⟨j + 1, ?_⟩
          try dsimp only
          refine ⟨?_, ?_, ?_⟩
          · refine ⟨by omega, fun i a b => ?_⟩; first | (exfalso; omega) | (by_cases e : i = j; (subst e; assumption); exact I1.2 i a (by omega))
          · refine ⟨?_, ⟨Int.le_refl _, fun _ => fun _ => ⟨rfl, ⟨rfl, ⟨rfl, rfl⟩⟩⟩⟩, Int.le_refl _, fun _ => fun _ => ⟨rfl, ⟨rfl, ⟨rfl, rfl⟩⟩⟩⟩
            refine ⟨rfl, rfl, ?_, ?_⟩
            · rfl
            · intro c21
              omega
          · omega
      · intro c22
        refine ⟨?_, ⟨Int.le_refl _, fun _ => fun _ => ⟨rfl, ⟨rfl, ⟨rfl, rfl⟩⟩⟩⟩, Int.le_refl _, fun _ => fun _ => ⟨rfl, ⟨rfl, ⟨rfl, rfl⟩⟩⟩⟩
        simp only [eqS]; rw [allB_iff.2 fun i a b => I1.2 i a (by omega)]; simp; omega
def c_l_eqSegmentS (P : Int → Int) (Q : Int → Int) (R : Int → Int) (S : Int → Int) (n : Int) (P2 : Int → Int) (Q2 : Int → Int) (R2 : Int → Int) (S2 : Int → Int) (m : Int) : Cn Try.prog := ⟨_, _, _, _, _, l_eqSegmentS P Q R S n P2 Q2 R2 S2 m⟩
end Go.Proofs.Ytoielngedkbmbaa
