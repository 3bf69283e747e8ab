/- FnExactCheckSpanning: the walk. -/
import Derived.Test.YtcfkpdjbjfnnmaaK63
set_option linter.unusedSimpArgs false
set_option linter.unusedVariables false
set_option maxRecDepth 100000
namespace Go.Proofs.Ytcfkpdjbjfnnmaa
open Go.Sym
theorem l_toPair (pA : Int) (pB : Int) : RunsTo Try.prog 55 [(.agg [(.int .i64 (.v fun _ => pA) (-9223372036854775808) 9223372036854775807), (.int .i64 (.v fun _ => pB) (-9223372036854775808) 9223372036854775807)])] [] (.agg [(.int .i64 (.v fun _ => pA) (-9223372036854775808) 9223372036854775807), (.int .i64 (.v fun _ => pB) (-9223372036854775808) 9223372036854775807)]) [] := by
  refine RunsTo.go env Try.func55 rfl Try.call55 rfl rfl (fun _ _ => .ret) (G := (((-9223372036854775808) ≤ pA ∧ pA ≤ 9223372036854775807) ∧ ((-9223372036854775808) ≤ pB ∧ pB ≤ 9223372036854775807)) → (True) → ((pA = pA) ∧ (pB = pB))) (by kernel_rfl) ?_
  intro h1 h2
  exact ⟨rfl, rfl⟩
def c_l_toPair (pA : Int) (pB : Int) : Cn Try.prog := ⟨_, _, _, _, _, l_toPair pA pB⟩
theorem l_eqPair (aA : Int) (aB : Int) (bA : Int) (bB : Int) : RunsTo Try.prog 66 [(.agg [(.int .i64 (.v fun _ => aA) (-9223372036854775808) 9223372036854775807), (.int .i64 (.v fun _ => aB) (-9223372036854775808) 9223372036854775807)]), (.agg [(.int .i64 (.v fun _ => bA) (-9223372036854775808) 9223372036854775807), (.int .i64 (.v fun _ => bB) (-9223372036854775808) 9223372036854775807)])] [] (.bool (.v fun _ => decide (aA = bA) && decide (aB = bB))) [] := by
  refine RunsTo.go env Try.func66 rfl Try.call66 rfl rfl (fun _ _ => (.ite .ret (.ite .ret .ret))) (G := ((((-9223372036854775808) ≤ aA ∧ aA ≤ 9223372036854775807) ∧ ((-9223372036854775808) ≤ aB ∧ aB ≤ 9223372036854775807)) ∧ (((-9223372036854775808) ≤ bA ∧ bA ≤ 9223372036854775807) ∧ ((-9223372036854775808) ≤ bB ∧ bB ≤ 9223372036854775807))) → (True) → (((aA ≠ bA) → ((decide (aA = bA) && decide (aB = bB)) = false)) ∧ ((aA = bA) → (((aB ≠ bB) → ((decide (aA = bA) && decide (aB = bB)) = false)) ∧ ((aB = bB) → ((decide (aA = bA) && decide (aB = bB)) = true)))))) (by kernel_rfl) ?_
  intro h1 h2
  refine ⟨?_, ?_⟩
  · intro c1
    -- 1: (decide (aA = bA) && decide (aB = bB)) = false
    first | rfl | omega | (simp_all; done) | (simp_all; omega)
  · intro c2
    refine ⟨?_, ?_⟩
    · intro c3
      -- 2: (decide (aA = bA) && decide (aB = bB)) = false
      first | rfl | omega | (simp_all; done) | (simp_all; omega)
    · intro c4
      -- 3: (decide (aA = bA) && decide (aB = bB)) = true
      first | rfl | omega | (simp_all; done) | (simp_all; omega)
def c_l_eqPair (aA : Int) (aB : Int) (bA : Int) (bB : Int) : Cn Try.prog := ⟨_, _, _, _, _, l_eqPair aA aB bA bB⟩
theorem l_szPairS (A : Int → Int) (B : Int → Int) (m : Int) (t : Int) : RunsTo Try.prog 14 [(.sl 0 2 (.lit 0) (.v fun _ => m) 9223372036854775807), (.int .i64 (.v fun _ => t) 0 1048576)] [some ⟨71, 2, false, (.sym (.v fun _ => m) fun e => [(.int .i64 (.v fun _ => (A (e.den))) (-9223372036854775808) 9223372036854775807), (.int .i64 (.v fun _ => (B (e.den))) (-9223372036854775808) 9223372036854775807)])⟩] (.int .i64 (.v fun _ => if t - m < 0 then -1 else t - m) (-1) 1048576) [some ⟨71, 2, false, (.sym (.v fun _ => m) fun e => [(.int .i64 (.v fun _ => (A (e.den))) (-9223372036854775808) 9223372036854775807), (.int .i64 (.v fun _ => (B (e.den))) (-9223372036854775808) 9223372036854775807)])⟩] := by
  refine RunsTo.go env Try.func14 rfl Try.call14 rfl rfl (fun _ _ => (.ite .ret .ret)) (G := ((0 ≤ m ∧ m ≤ 9223372036854775807) ∧ (0 ≤ t ∧ t ≤ 1048576)) → (∀ e3 : E, ((0 ≤ e3.den ∧ e3.den < m) → (((-9223372036854775808) ≤ ((A (e3.den))) ∧ ((A (e3.den))) ≤ 9223372036854775807) ∧ ((-9223372036854775808) ≤ ((B (e3.den))) ∧ ((B (e3.den))) ≤ 9223372036854775807)))) → ((((t - m) < 0) → ((((-1) : Int) = (if t - m < 0 then -1 else t - m)) ∧ ((m ≤ m) ∧ (∀ e1 : E, ((0 ≤ e1.den ∧ e1.den < m) → ((((A (e1.den))) = ((A (e1.den)))) ∧ (((B (e1.den))) = ((B (e1.den)))))))))) ∧ ((0 ≤ (t - m)) → ((((t - m) = (if t - m < 0 then -1 else t - m)) ∧ (((-9223372036854775807) ≤ (t - m) ∧ (t - m) ≤ 1048576) → ((-1) ≤ (if t - m < 0 then -1 else t - m) ∧ (if t - m < 0 then -1 else t - m) ≤ 1048576))) ∧ ((m ≤ m) ∧ (∀ e2 : E, ((0 ≤ e2.den ∧ e2.den < m) → ((((A (e2.den))) = ((A (e2.den)))) ∧ (((B (e2.den))) = ((B (e2.den)))))))))))) (by kernel_rfl) ?_
  intro h1 h2
  refine ⟨?_, ?_⟩
  · intro c4
    refine ⟨?_, Int.le_refl _, fun _ => fun _ => ⟨rfl, rfl⟩⟩
    -- 1: ((-1) : Int) = (if t - m < 0 then -1 else t - m)
    first | rfl | omega | (split <;> omega)
  · intro c5
    refine ⟨?_, Int.le_refl _, fun _ => fun _ => ⟨rfl, rfl⟩⟩
    refine ⟨?_, ?_⟩
      -- 2: (t - m) = (if t - m < 0 then -1 else t - m)
    · first | rfl | omega | (split <;> omega)
    · intro c6
      -- 3: (-1) ≤ (if t - m < 0 then -1 else t - m) ∧ (if t - m < 0 then -1 else t - m) ≤ 1048576
      first | rfl | omega | (split <;> omega)
def c_l_szPairS (A : Int → Int) (B : Int → Int) (m : Int) (t : Int) : Cn Try.prog := ⟨_, _, _, _, _, l_szPairS A B m t⟩
theorem l_toPairS (A : Int → Int) (B : Int → Int) (m : Int) : RunsTo Try.prog 17 [(.sl 0 2 (.lit 0) (.v fun _ => m) 1048576)] [some ⟨71, 2, false, (.sym (.v fun _ => m) fun e => [(.int .i64 (.v fun _ => (A (e.den))) (-9223372036854775808) 9223372036854775807), (.int .i64 (.v fun _ => (B (e.den))) (-9223372036854775808) 9223372036854775807)])⟩] (.sl 1 2 (.lit 0) (.v fun _ => m) 1048576) [some ⟨71, 2, false, (.sym (.v fun _ => m) fun e => [(.int .i64 (.v fun _ => (A (e.den))) (-9223372036854775808) 9223372036854775807), (.int .i64 (.v fun _ => (B (e.den))) (-9223372036854775808) 9223372036854775807)])⟩, some ⟨58, 2, true, (.sym (.v fun _ => m) fun e => [(.int .i64 (.v fun _ => (A (e.den))) (-9223372036854775808) 9223372036854775807), (.int .i64 (.v fun _ => (B (e.den))) (-9223372036854775808) 9223372036854775807)])⟩] := by
  refine RunsTo.go env Try.func17 rfl Try.call17 rfl rfl (fun _ _ => (.need (.loop [] [0, 1] (Int) (fun x1 => ⟨spl 23 0 [(0, (.sl 0 2 (.lit 0) (.v fun _ => m) 1048576)), (2, (.raw (.slice none 0 0))), (3, (.sl 1 2 (.lit 0) (.v fun _ => m) 1048576)), (4, (.int .i64 (.v fun _ => x1) 0 1048576))], [some ⟨71, 2, false, (.sym (.v fun _ => m) fun e => [(.int .i64 (.v fun _ => (A (e.den))) (-9223372036854775808) 9223372036854775807), (.int .i64 (.v fun _ => (B (e.den))) (-9223372036854775808) 9223372036854775807)])⟩, some ⟨58, 2, true, (.sym (.v fun _ => m) fun e => [(.int .i64 (.v fun _ => cpy A x1 (e.den)) (-9223372036854775808) 9223372036854775807), (.int .i64 (.v fun _ => cpy B x1 (e.den)) (-9223372036854775808) 9223372036854775807)])⟩], 1⟩) (fun x1 => 0 ≤ x1 ∧ x1 ≤ m) (fun x1 => (m - x1).toNat) fun x1 => (.ite (.need (.need (.call (c_l_toPair ((A (x1))) ((B (x1)))) (.need (.need (.next [0, 1])))))) (.out .ret))))) (G := (0 ≤ m ∧ m ≤ 1048576) → (∀ e11 : E, ((0 ≤ e11.den ∧ e11.den < m) → (((-9223372036854775808) ≤ ((A (e11.den))) ∧ ((A (e11.den))) ≤ 9223372036854775807) ∧ ((-9223372036854775808) ≤ ((B (e11.den))) ∧ ((B (e11.den))) ≤ 9223372036854775807)))) → ((m ≤ m) ∧ ((∃ y2 : Int, ((0 ≤ y2 ∧ y2 ≤ m) ∧ (((m = m) ∧ ((((.slice none 0 0) : Value) = (.slice none 0 0)) ∧ ((m = m) ∧ ((0 : Int) = y2)))) ∧ (((m ≤ m) ∧ (∀ e4 : E, ((0 ≤ e4.den ∧ e4.den < m) → ((((A (e4.den))) = ((A (e4.den)))) ∧ (((B (e4.den))) = ((B (e4.den)))))))) ∧ ((m ≤ m) ∧ (∀ e3 : E, ((0 ≤ e3.den ∧ e3.den < m) → (((0 : Int) = (cpy A y2 (e3.den))) ∧ ((0 : Int) = (cpy B y2 (e3.den))))))))))) ∧ (∀ x1 : Int, ((0 ≤ x1 ∧ x1 ≤ m) → (((x1 < m) → ((((0 ≤ x1) ∧ (x1 < m))) ∧ ((x1 < m) ∧ (((((A (x1))) = ((A (x1)))) ∧ (((B (x1))) = ((B (x1))))) ∧ ((((0 ≤ x1) ∧ (x1 < m))) ∧ ((x1 < m) ∧ (∃ y5 : Int, ((0 ≤ y5 ∧ y5 ≤ m) ∧ ((((m = m) ∧ ((((.slice none 0 0) : Value) = (.slice none 0 0)) ∧ ((m = m) ∧ (((x1 + 1) = y5) ∧ ((1 ≤ (x1 + 1) ∧ (x1 + 1) ≤ 1048577) → (0 ≤ y5 ∧ y5 ≤ 1048576)))))) ∧ (((m ≤ m) ∧ (∀ e8 : E, ((0 ≤ e8.den ∧ e8.den < m) → ((((A (e8.den))) = ((A (e8.den)))) ∧ (((B (e8.den))) = ((B (e8.den)))))))) ∧ ((m = m) ∧ ((∀ e7 : E, ((0 ≤ e7.den ∧ e7.den < m ∧ e7.den ≠ x1) → (((cpy A x1 (e7.den)) = (cpy A y5 (e7.den))) ∧ ((cpy B x1 (e7.den)) = (cpy B y5 (e7.den)))))) ∧ (∀ e6 : E, ((e6.den.toNat = (x1 : Int).toNat ∧ 0 ≤ e6.den) → ((((A (x1))) = (cpy A y5 (e6.den))) ∧ (((B (x1))) = (cpy B y5 (e6.den)))))))))) ∧ ((m - y5).toNat < (m - x1).toNat)))))))))) ∧ ((m ≤ x1) → ((m = m) ∧ (((m ≤ m) ∧ (∀ e10 : E, ((0 ≤ e10.den ∧ e10.den < m) → ((((A (e10.den))) = ((A (e10.den)))) ∧ (((B (e10.den))) = ((B (e10.den)))))))) ∧ ((m ≤ m) ∧ (∀ e9 : E, ((0 ≤ e9.den ∧ e9.den < m) → (((cpy A x1 (e9.den)) = ((A (e9.den)))) ∧ ((cpy B x1 (e9.den)) = ((B (e9.den))))))))))))))))) (by kernel_rfl) ?_
  intro h1 h2
  refine ⟨?_, ?_, ?_⟩
    -- 1: m ≤ m
  · first | rfl | omega | (simp [cpy, *]; done) | (simp [cpy, *]; omega) | (unfold cpy; rw [if_neg (by omega)]; done) | (unfold cpy; rw [if_pos (by omega)]; done) | (simp only [cpy]; rw [if_pos (by omega)]; congr 1; omega)
  · refine ⟨0, ?_⟩
    try dsimp only
    refine ⟨?_, ?_, ⟨Int.le_refl _, fun _ => fun _ => ⟨rfl, rfl⟩⟩, Int.le_refl _, ?_⟩
      -- 2: 0 ≤ y2 ∧ y2 ≤ m
    · first | rfl | omega | (simp [cpy, *]; done) | (simp [cpy, *]; omega) | (unfold cpy; rw [if_neg (by omega)]; done) | (unfold cpy; rw [if_pos (by omega)]; done) | (simp only [cpy]; rw [if_pos (by omega)]; congr 1; omega)
    · refine ⟨rfl, rfl, rfl, ?_⟩
      -- 3: (0 : Int) = y2
      first | rfl | omega | (simp [cpy, *]; done) | (simp [cpy, *]; omega) | (unfold cpy; rw [if_neg (by omega)]; done) | (unfold cpy; rw [if_pos (by omega)]; done) | (simp only [cpy]; rw [if_pos (by omega)]; congr 1; omega)
    · intro e3
      intro c12
      refine ⟨?_, ?_⟩
        -- 4: (0 : Int) = (cpy A y2 (e3.den))
      · first | rfl | omega | (simp [cpy, *]; done) | (simp [cpy, *]; omega) | (unfold cpy; rw [if_neg (by omega)]; done) | (unfold cpy; rw [if_pos (by omega)]; done) | (simp only [cpy]; rw [if_pos (by omega)]; congr 1; omega)
        -- 5: (0 : Int) = (cpy B y2 (e3.den))
      · first | rfl | omega | (simp [cpy, *]; done) | (simp [cpy, *]; omega) | (unfold cpy; rw [if_neg (by omega)]; done) | (unfold cpy; rw [if_pos (by omega)]; done) | (simp only [cpy]; rw [if_pos (by omega)]; congr 1; omega)
  · intro j
    intro I1
    refine ⟨?_, ?_⟩
    · intro c13
      refine ⟨?_, ?_, ⟨rfl, rfl⟩, ?_, ?_, ?_⟩
        -- 6: ((0 ≤ x1) ∧ (x1 < m))
      · first | rfl | omega | (simp [cpy, *]; done) | (simp [cpy, *]; omega) | (unfold cpy; rw [if_neg (by omega)]; done) | (unfold cpy; rw [if_pos (by omega)]; done) | (simp only [cpy]; rw [if_pos (by omega)]; congr 1; omega)
        -- 7: x1 < m
      · first | rfl | omega | (simp [cpy, *]; done) | (simp [cpy, *]; omega) | (unfold cpy; rw [if_neg (by omega)]; done) | (unfold cpy; rw [if_pos (by omega)]; done) | (simp only [cpy]; rw [if_pos (by omega)]; congr 1; omega)
        -- 8: ((0 ≤ x1) ∧ (x1 < m))
      · first | rfl | omega | (simp [cpy, *]; done) | (simp [cpy, *]; omega) | (unfold cpy; rw [if_neg (by omega)]; done) | (unfold cpy; rw [if_pos (by omega)]; done) | (simp only [cpy]; rw [if_pos (by omega)]; congr 1; omega)
        -- 9: x1 < m
      · first | rfl | omega | (simp [cpy, *]; done) | (simp [cpy, *]; omega) | (unfold cpy; rw [if_neg (by omega)]; done) | (unfold cpy; rw [if_pos (by omega)]; done) | (simp only [cpy]; rw [if_pos (by omega)]; congr 1; omega)
      · refine ⟨j + 1, ?_⟩
        try dsimp only
        refine ⟨?_, ?_, ?_⟩
          -- 10: 0 ≤ y5 ∧ y5 ≤ m
        · first | rfl | omega | (simp [cpy, *]; done) | (simp [cpy, *]; omega) | (unfold cpy; rw [if_neg (by omega)]; done) | (unfold cpy; rw [if_pos (by omega)]; done) | (simp only [cpy]; rw [if_pos (by omega)]; congr 1; omega)
        · refine ⟨?_, ⟨Int.le_refl _, fun _ => fun _ => ⟨rfl, rfl⟩⟩, rfl, ?_, ?_⟩
          · refine ⟨rfl, rfl, rfl, ?_, ?_⟩
              -- 11: (x1 + 1) = y5
            · first | rfl | omega | (simp [cpy, *]; done) | (simp [cpy, *]; omega) | (unfold cpy; rw [if_neg (by omega)]; done) | (unfold cpy; rw [if_pos (by omega)]; done) | (simp only [cpy]; rw [if_pos (by omega)]; congr 1; omega)
            · intro c14
              -- 12: 0 ≤ y5 ∧ y5 ≤ 1048576
              first | rfl | omega | (simp [cpy, *]; done) | (simp [cpy, *]; omega) | (unfold cpy; rw [if_neg (by omega)]; done) | (unfold cpy; rw [if_pos (by omega)]; done) | (simp only [cpy]; rw [if_pos (by omega)]; congr 1; omega)
          · intro e7
            intro c15
            refine ⟨?_, ?_⟩
              -- 13: (cpy A x1 (e7.den)) = (cpy A y5 (e7.den))
            · first | rfl | omega | (simp [cpy, *]; done) | (simp [cpy, *]; omega) | (unfold cpy; rw [if_neg (by omega)]; done) | (unfold cpy; rw [if_pos (by omega)]; done) | (simp only [cpy]; rw [if_pos (by omega)]; congr 1; omega)
              -- 14: (cpy B x1 (e7.den)) = (cpy B y5 (e7.den))
            · first | rfl | omega | (simp [cpy, *]; done) | (simp [cpy, *]; omega) | (unfold cpy; rw [if_neg (by omega)]; done) | (unfold cpy; rw [if_pos (by omega)]; done) | (simp only [cpy]; rw [if_pos (by omega)]; congr 1; omega)
          · intro e6
            intro c16
            refine ⟨?_, ?_⟩
              -- 15: ((A (x1))) = (cpy A y5 (e6.den))
            · first | rfl | omega | (simp [cpy, *]; done) | (simp [cpy, *]; omega) | (unfold cpy; rw [if_neg (by omega)]; done) | (unfold cpy; rw [if_pos (by omega)]; done) | (simp only [cpy]; rw [if_pos (by omega)]; congr 1; omega)
              -- 16: ((B (x1))) = (cpy B y5 (e6.den))
            · first | rfl | omega | (simp [cpy, *]; done) | (simp [cpy, *]; omega) | (unfold cpy; rw [if_neg (by omega)]; done) | (unfold cpy; rw [if_pos (by omega)]; done) | (simp only [cpy]; rw [if_pos (by omega)]; congr 1; omega)
          -- 17: (m - y5).toNat < (m - x1).toNat
        · first | rfl | omega | (simp [cpy, *]; done) | (simp [cpy, *]; omega) | (unfold cpy; rw [if_neg (by omega)]; done) | (unfold cpy; rw [if_pos (by omega)]; done) | (simp only [cpy]; rw [if_pos (by omega)]; congr 1; omega)
    · intro c17
      refine ⟨rfl, ⟨Int.le_refl _, fun _ => fun _ => ⟨rfl, rfl⟩⟩, Int.le_refl _, ?_⟩
      intro e9
      intro c18
      refine ⟨?_, ?_⟩
        -- 18: (cpy A x1 (e9.den)) = ((A (e9.den)))
      · first | rfl | omega | (simp [cpy, *]; done) | (simp [cpy, *]; omega) | (unfold cpy; rw [if_neg (by omega)]; done) | (unfold cpy; rw [if_pos (by omega)]; done) | (simp only [cpy]; rw [if_pos (by omega)]; congr 1; omega)
        -- 19: (cpy B x1 (e9.den)) = ((B (e9.den)))
      · first | rfl | omega | (simp [cpy, *]; done) | (simp [cpy, *]; omega) | (unfold cpy; rw [if_neg (by omega)]; done) | (unfold cpy; rw [if_pos (by omega)]; done) | (simp only [cpy]; rw [if_pos (by omega)]; congr 1; omega)
def c_l_toPairS (A : Int → Int) (B : Int → Int) (m : Int) : Cn Try.prog := ⟨_, _, _, _, _, l_toPairS A B m⟩
theorem l_eqPairS (A : Int → Int) (B : Int → Int) (m : Int) (V : Int → Int) (U : Int → Int) (k : Int) : RunsTo Try.prog 20 [(.sl 0 2 (.lit 0) (.v fun _ => m) 1048576), (.sl 1 2 (.lit 0) (.v fun _ => k) 1048576)] [some ⟨58, 2, true, (.sym (.v fun _ => m) fun e => [(.int .i64 (.v fun _ => (A (e.den))) (-9223372036854775808) 9223372036854775807), (.int .i64 (.v fun _ => (B (e.den))) (-9223372036854775808) 9223372036854775807)])⟩, some ⟨58, 2, true, (.sym (.v fun _ => k) fun e => [(.int .i64 (.v fun _ => (V (e.den))) (-9223372036854775808) 9223372036854775807), (.int .i64 (.v fun _ => (U (e.den))) (-9223372036854775808) 9223372036854775807)])⟩] (.bool (.v fun _ => eqP A B m V U k)) [some ⟨58, 2, true, (.sym (.v fun _ => m) fun e => [(.int .i64 (.v fun _ => (A (e.den))) (-9223372036854775808) 9223372036854775807), (.int .i64 (.v fun _ => (B (e.den))) (-9223372036854775808) 9223372036854775807)])⟩, some ⟨58, 2, true, (.sym (.v fun _ => k) fun e => [(.int .i64 (.v fun _ => (V (e.den))) (-9223372036854775808) 9223372036854775807), (.int .i64 (.v fun _ => (U (e.den))) (-9223372036854775808) 9223372036854775807)])⟩] := by
  refine RunsTo.go env Try.func20 rfl Try.call20 rfl rfl (fun _ _ => (.ite .ret (.loop [] [0, 1] (Int) (fun x3 => ⟨spl 27 0 [(0, (.sl 0 2 (.lit 0) (.v fun _ => m) 1048576)), (1, (.sl 1 2 (.lit 0) (.v fun _ => k) 1048576)), (5, (.int .i64 (.v fun _ => x3) 0 1048576))], [some ⟨58, 2, true, (.sym (.v fun _ => m) fun e => [(.int .i64 (.v fun _ => (A (e.den))) (-9223372036854775808) 9223372036854775807), (.int .i64 (.v fun _ => (B (e.den))) (-9223372036854775808) 9223372036854775807)])⟩, some ⟨58, 2, true, (.sym (.v fun _ => k) fun e => [(.int .i64 (.v fun _ => (V (e.den))) (-9223372036854775808) 9223372036854775807), (.int .i64 (.v fun _ => (U (e.den))) (-9223372036854775808) 9223372036854775807)])⟩], 2⟩) (fun x3 => (0 ≤ x3 ∧ x3 ≤ m) ∧ ∀ i, 0 ≤ i → i < x3 → (decide ((A (i)) = (V (i))) && decide ((B (i)) = (U (i)))) = true) (fun x3 => (m - x3).toNat) fun x3 => (.ite (.need (.need (.need (.need (.call (c_l_eqPair ((A (x3))) ((B (x3))) ((V (x3))) ((U (x3)))) (.ite (.out .ret) (.next [0, 1]))))))) (.out .ret))))) (G := ((0 ≤ m ∧ m ≤ 1048576) ∧ (0 ≤ k ∧ k ≤ 1048576)) → ((∀ e15 : E, ((0 ≤ e15.den ∧ e15.den < m) → (((-9223372036854775808) ≤ ((A (e15.den))) ∧ ((A (e15.den))) ≤ 9223372036854775807) ∧ ((-9223372036854775808) ≤ ((B (e15.den))) ∧ ((B (e15.den))) ≤ 9223372036854775807)))) ∧ (∀ e14 : E, ((0 ≤ e14.den ∧ e14.den < k) → (((-9223372036854775808) ≤ ((V (e14.den))) ∧ ((V (e14.den))) ≤ 9223372036854775807) ∧ ((-9223372036854775808) ≤ ((U (e14.den))) ∧ ((U (e14.den))) ≤ 9223372036854775807))))) → (((m ≠ k) → (((eqP A B m V U k) = false) ∧ (((m ≤ m) ∧ (∀ e2 : E, ((0 ≤ e2.den ∧ e2.den < m) → ((((A (e2.den))) = ((A (e2.den)))) ∧ (((B (e2.den))) = ((B (e2.den)))))))) ∧ ((k ≤ k) ∧ (∀ e1 : E, ((0 ≤ e1.den ∧ e1.den < k) → ((((V (e1.den))) = ((V (e1.den)))) ∧ (((U (e1.den))) = ((U (e1.den))))))))))) ∧ ((m = k) → ((∃ y4 : Int, (((0 ≤ y4 ∧ y4 ≤ m) ∧ ∀ i, 0 ≤ i → i < y4 → (decide ((A (i)) = (V (i))) && decide ((B (i)) = (U (i)))) = true) ∧ (((m = m) ∧ ((k = k) ∧ ((0 : Int) = y4))) ∧ (((m ≤ m) ∧ (∀ e6 : E, ((0 ≤ e6.den ∧ e6.den < m) → ((((A (e6.den))) = ((A (e6.den)))) ∧ (((B (e6.den))) = ((B (e6.den)))))))) ∧ ((k ≤ k) ∧ (∀ e5 : E, ((0 ≤ e5.den ∧ e5.den < k) → ((((V (e5.den))) = ((V (e5.den)))) ∧ (((U (e5.den))) = ((U (e5.den)))))))))))) ∧ (∀ x3 : Int, (((0 ≤ x3 ∧ x3 ≤ m) ∧ ∀ i, 0 ≤ i → i < x3 → (decide ((A (i)) = (V (i))) && decide ((B (i)) = (U (i)))) = true) → (((x3 < m) → ((((0 ≤ x3) ∧ (x3 < m))) ∧ ((x3 < m) ∧ ((((0 ≤ x3) ∧ (x3 < k))) ∧ ((x3 < k) ∧ ((((((A (x3))) = ((A (x3)))) ∧ (((B (x3))) = ((B (x3))))) ∧ ((((V (x3))) = ((V (x3)))) ∧ (((U (x3))) = ((U (x3)))))) ∧ ((((decide (((A (x3))) = ((V (x3)))) && decide (((B (x3))) = ((U (x3))))) = false) → (((eqP A B m V U k) = false) ∧ (((m ≤ m) ∧ (∀ e8 : E, ((0 ≤ e8.den ∧ e8.den < m) → ((((A (e8.den))) = ((A (e8.den)))) ∧ (((B (e8.den))) = ((B (e8.den)))))))) ∧ ((k ≤ k) ∧ (∀ e7 : E, ((0 ≤ e7.den ∧ e7.den < k) → ((((V (e7.den))) = ((V (e7.den)))) ∧ (((U (e7.den))) = ((U (e7.den))))))))))) ∧ (((decide (((A (x3))) = ((V (x3)))) && decide (((B (x3))) = ((U (x3))))) = true) → (∃ y9 : Int, (((0 ≤ y9 ∧ y9 ≤ m) ∧ ∀ i, 0 ≤ i → i < y9 → (decide ((A (i)) = (V (i))) && decide ((B (i)) = (U (i)))) = true) ∧ ((((m = m) ∧ ((k = k) ∧ (((x3 + 1) = y9) ∧ ((1 ≤ (x3 + 1) ∧ (x3 + 1) ≤ 1048577) → (0 ≤ y9 ∧ y9 ≤ 1048576))))) ∧ (((m ≤ m) ∧ (∀ e11 : E, ((0 ≤ e11.den ∧ e11.den < m) → ((((A (e11.den))) = ((A (e11.den)))) ∧ (((B (e11.den))) = ((B (e11.den)))))))) ∧ ((k ≤ k) ∧ (∀ e10 : E, ((0 ≤ e10.den ∧ e10.den < k) → ((((V (e10.den))) = ((V (e10.den)))) ∧ (((U (e10.den))) = ((U (e10.den)))))))))) ∧ ((m - y9).toNat < (m - x3).toNat)))))))))))) ∧ ((m ≤ x3) → (((eqP A B m V U k) = true) ∧ (((m ≤ m) ∧ (∀ e13 : E, ((0 ≤ e13.den ∧ e13.den < m) → ((((A (e13.den))) = ((A (e13.den)))) ∧ (((B (e13.den))) = ((B (e13.den)))))))) ∧ ((k ≤ k) ∧ (∀ e12 : E, ((0 ≤ e12.den ∧ e12.den < k) → ((((V (e12.den))) = ((V (e12.den)))) ∧ (((U (e12.den))) = ((U (e12.den)))))))))))))))))) (by kernel_rfl) ?_
  intro h1 h2
  refine ⟨?_, ?_⟩
  · intro c16
    refine ⟨?_, ⟨Int.le_refl _, fun _ => fun _ => ⟨rfl, rfl⟩⟩, Int.le_refl _, fun _ => fun _ => ⟨rfl, rfl⟩⟩
    -- 1: (eqP A B m V U k) = false
    first | rfl | omega | (refine ⟨by omega, fun i a b => ?_⟩; first | (exfalso; omega) | (by_cases e : i = j; (subst e; assumption); exact I1.2 i a (by omega))) | (simp only [eqP]; rw [allB_false (q := fun i => decide (A i = V i) && decide (B i = U i)) I1.1.1 (by omega) (by assumption)]; simp; done) | (simp only [eqP]; rw [allB_iff.2 fun i a b => I1.2 i a (by omega)]; simp; omega) | (simp [eqP]; omega)
  · intro c17
    refine ⟨?_, ?_⟩
    · refine ⟨0, ?_⟩
      try dsimp only
      refine ⟨?_, ?_, ⟨Int.le_refl _, fun _ => fun _ => ⟨rfl, rfl⟩⟩, Int.le_refl _, fun _ => fun _ => ⟨rfl, rfl⟩⟩
        -- 2: (0 ≤ y4 ∧ y4 ≤ m) ∧ ∀ i, 0 ≤ i → i < y4 → (decide ((A (i)) = (V (i))) && decide ((B (i)) = (U (i))))
      · first | rfl | omega | (refine ⟨by omega, fun i a b => ?_⟩; first | (exfalso; omega) | (by_cases e : i = j; (subst e; assumption); exact I1.2 i a (by omega))) | (simp only [eqP]; rw [allB_false (q := fun i => decide (A i = V i) && decide (B i = U i)) I1.1.1 (by omega) (by assumption)]; simp; done) | (simp only [eqP]; rw [allB_iff.2 fun i a b => I1.2 i a (by omega)]; simp; omega) | (simp [eqP]; omega)
      · refine ⟨rfl, rfl, ?_⟩
        rfl
    · intro j
      intro I1
      refine ⟨?_, ?_⟩
      · intro c18
        refine ⟨?_, ?_, ?_, ?_, ⟨⟨rfl, rfl⟩, ⟨rfl, rfl⟩⟩, ?_, ?_⟩
          -- 4: ((0 ≤ x3) ∧ (x3 < m))
        · first | rfl | omega | (refine ⟨by omega, fun i a b => ?_⟩; first | (exfalso; omega) | (by_cases e : i = j; (subst e; assumption); exact I1.2 i a (by omega))) | (simp only [eqP]; rw [allB_false (q := fun i => decide (A i = V i) && decide (B i = U i)) I1.1.1 (by omega) (by assumption)]; simp; done) | (simp only [eqP]; rw [allB_iff.2 fun i a b => I1.2 i a (by omega)]; simp; omega) | (simp [eqP]; omega)
          -- 5: x3 < m
        · first | rfl | omega | (refine ⟨by omega, fun i a b => ?_⟩; first | (exfalso; omega) | (by_cases e : i = j; (subst e; assumption); exact I1.2 i a (by omega))) | (simp only [eqP]; rw [allB_false (q := fun i => decide (A i = V i) && decide (B i = U i)) I1.1.1 (by omega) (by assumption)]; simp; done) | (simp only [eqP]; rw [allB_iff.2 fun i a b => I1.2 i a (by omega)]; simp; omega) | (simp [eqP]; omega)
          -- 6: ((0 ≤ x3) ∧ (x3 < k))
        · first | rfl | omega | (refine ⟨by omega, fun i a b => ?_⟩; first | (exfalso; omega) | (by_cases e : i = j; (subst e; assumption); exact I1.2 i a (by omega))) | (simp only [eqP]; rw [allB_false (q := fun i => decide (A i = V i) && decide (B i = U i)) I1.1.1 (by omega) (by assumption)]; simp; done) | (simp only [eqP]; rw [allB_iff.2 fun i a b => I1.2 i a (by omega)]; simp; omega) | (simp [eqP]; omega)
          -- 7: x3 < k
        · first | rfl | omega | (refine ⟨by omega, fun i a b => ?_⟩; first | (exfalso; omega) | (by_cases e : i = j; (subst e; assumption); exact I1.2 i a (by omega))) | (simp only [eqP]; rw [allB_false (q := fun i => decide (A i = V i) && decide (B i = U i)) I1.1.1 (by omega) (by assumption)]; simp; done) | (simp only [eqP]; rw [allB_iff.2 fun i a b => I1.2 i a (by omega)]; simp; omega) | (simp [eqP]; omega)
        · intro c19
          refine ⟨?_, ⟨Int.le_refl _, fun _ => fun _ => ⟨rfl, rfl⟩⟩, Int.le_refl _, fun _ => fun _ => ⟨rfl, rfl⟩⟩
          -- 8: (eqP A B m V U k) = false
          first | rfl | omega | (refine ⟨by omega, fun i a b => ?_⟩; first | (exfalso; omega) | (by_cases e : i = j; (subst e; assumption); exact I1.2 i a (by omega))) | (simp only [eqP]; rw [allB_false (q := fun i => decide (A i = V i) && decide (B i = U i)) I1.1.1 (by omega) (by assumption)]; simp; done) | (simp only [eqP]; rw [allB_iff.2 fun i a b => I1.2 i a (by omega)]; simp; omega) | (simp [eqP]; omega)
        · intro c20
          refine ⟨j + 1, ?_⟩
          try dsimp only
          refine ⟨?_, ?_, ?_⟩
            -- 9: (0 ≤ y9 ∧ y9 ≤ m) ∧ ∀ i, 0 ≤ i → i < y9 → (decide ((A (i)) = (V (i))) && decide ((B (i)) = (U (i))))
          · first | rfl | omega | (refine ⟨by omega, fun i a b => ?_⟩; first | (exfalso; omega) | (by_cases e : i = j; (subst e; assumption); exact I1.2 i a (by omega))) | (simp only [eqP]; rw [allB_false (q := fun i => decide (A i = V i) && decide (B i = U i)) I1.1.1 (by omega) (by assumption)]; simp; done) | (simp only [eqP]; rw [allB_iff.2 fun i a b => I1.2 i a (by omega)]; simp; omega) | (simp [eqP]; omega)
          · refine ⟨?_, ⟨Int.le_refl _, fun _ => fun _ => ⟨rfl, rfl⟩⟩, Int.le_refl _, fun _ => fun _ => ⟨rfl, rfl⟩⟩
            refine ⟨rfl, rfl, ?_, ?_⟩
            · rfl
            · intro c21
              omega
            -- 12: (m - y9).toNat < (m - x3).toNat
          · first | rfl | omega | (refine ⟨by omega, fun i a b => ?_⟩; first | (exfalso; omega) | (by_cases e : i = j; (subst e; assumption); exact I1.2 i a (by omega))) | (simp only [eqP]; rw [allB_false (q := fun i => decide (A i = V i) && decide (B i = U i)) I1.1.1 (by omega) (by assumption)]; simp; done) | (simp only [eqP]; rw [allB_iff.2 fun i a b => I1.2 i a (by omega)]; simp; omega) | (simp [eqP]; omega)
      · intro c22
        refine ⟨?_, ⟨Int.le_refl _, fun _ => fun _ => ⟨rfl, rfl⟩⟩, Int.le_refl _, fun _ => fun _ => ⟨rfl, rfl⟩⟩
        -- 13: (eqP A B m V U k) = true
        first | rfl | omega | (refine ⟨by omega, fun i a b => ?_⟩; first | (exfalso; omega) | (by_cases e : i = j; (subst e; assumption); exact I1.2 i a (by omega))) | (simp only [eqP]; rw [allB_false (q := fun i => decide (A i = V i) && decide (B i = U i)) I1.1.1 (by omega) (by assumption)]; simp; done) | (simp only [eqP]; rw [allB_iff.2 fun i a b => I1.2 i a (by omega)]; simp; omega) | (simp [eqP]; omega)
def c_l_eqPairS (A : Int → Int) (B : Int → Int) (m : Int) (V : Int → Int) (U : Int → Int) (k : Int) : Cn Try.prog := ⟨_, _, _, _, _, l_eqPairS A B m V U k⟩
theorem l_FnExactCheckSpanning (X : Int → Int) (Y : Int → Int) (n : Int) (A : Int → Int) (B : Int → Int) (m : Int) : RunsTo Try.prog 3 [(.sl 0 2 (.lit 0) (.v fun _ => n) 9223372036854775807), (.sl 1 2 (.lit 0) (.v fun _ => m) 9223372036854775807)] [some ⟨69, 2, false, (.sym (.v fun _ => n) fun e => [(.int .i64 (.v fun _ => (X (e.den))) (-9223372036854775808) 9223372036854775807), (.int .i64 (.v fun _ => (Y (e.den))) (-9223372036854775808) 9223372036854775807)])⟩, some ⟨71, 2, false, (.sym (.v fun _ => m) fun e => [(.int .i64 (.v fun _ => (A (e.den))) (-9223372036854775808) 9223372036854775807), (.int .i64 (.v fun _ => (B (e.den))) (-9223372036854775808) 9223372036854775807)])⟩] (.bool (.lit true)) [none, none] := by
  refine RunsTo.go env Try.func3 rfl Try.call3 rfl rfl (fun _ _ => (.callF (c_l_szPointS X Y n 1048576) (.ite .ret (.callF (c_l_szPairS A B m (if 1048576 - n < 0 then -1 else 1048576 - n)) (.ite .ret (.callF (c_l_toPointS X Y n) (.callF (c_l_toPairS A B m) (.call (c_s_CheckSpanning X Y n A B m) (.callF (c_l_toPointS X Y n) (.callF (c_l_toPairS A B m) (.call (c_i_CheckSpanning X Y n A B m) (.ite .ret (.callF (c_l_toPointS X Y n) (.call (c_l_eqPointS X Y n X Y n) (.ite .ret (.callF (c_l_toPairS A B m) (.call (c_l_eqPairS A B m A B m) (.ite .ret .ret)))))))))))))))))) (G := ((0 ≤ n ∧ n ≤ 9223372036854775807) ∧ (0 ≤ m ∧ m ≤ 9223372036854775807)) → ((∀ e18 : E, ((0 ≤ e18.den ∧ e18.den < n) → (((-9223372036854775808) ≤ ((X (e18.den))) ∧ ((X (e18.den))) ≤ 9223372036854775807) ∧ ((-9223372036854775808) ≤ ((Y (e18.den))) ∧ ((Y (e18.den))) ≤ 9223372036854775807)))) ∧ (∀ e17 : E, ((0 ≤ e17.den ∧ e17.den < m) → (((-9223372036854775808) ≤ ((A (e17.den))) ∧ ((A (e17.den))) ≤ 9223372036854775807) ∧ ((-9223372036854775808) ≤ ((B (e17.den))) ∧ ((B (e17.den))) ≤ 9223372036854775807))))) → (((n = n) ∧ ((1048576 : Int) = 1048576)) ∧ (((n ≤ n) ∧ (∀ e1 : E, ((0 ≤ e1.den ∧ e1.den < n) → ((((X (e1.den))) = ((X (e1.den)))) ∧ (((Y (e1.den))) = ((Y (e1.den)))))))) ∧ (((-1) ≤ (if 1048576 - n < 0 then -1 else 1048576 - n) ∧ (if 1048576 - n < 0 then -1 else 1048576 - n) ≤ 1048576) → ((0 ≤ (if 1048576 - n < 0 then -1 else 1048576 - n)) → (((m = m) ∧ (((if 1048576 - n < 0 then -1 else 1048576 - n) = (if 1048576 - n < 0 then -1 else 1048576 - n)) ∧ (((-1) ≤ (if 1048576 - n < 0 then -1 else 1048576 - n) ∧ (if 1048576 - n < 0 then -1 else 1048576 - n) ≤ 1048576) → (0 ≤ (if 1048576 - n < 0 then -1 else 1048576 - n) ∧ (if 1048576 - n < 0 then -1 else 1048576 - n) ≤ 1048576)))) ∧ (((m ≤ m) ∧ (∀ e2 : E, ((0 ≤ e2.den ∧ e2.den < m) → ((((A (e2.den))) = ((A (e2.den)))) ∧ (((B (e2.den))) = ((B (e2.den)))))))) ∧ (((-1) ≤ (if (if 1048576 - n < 0 then -1 else 1048576 - n) - m < 0 then -1 else (if 1048576 - n < 0 then -1 else 1048576 - n) - m) ∧ (if (if 1048576 - n < 0 then -1 else 1048576 - n) - m < 0 then -1 else (if 1048576 - n < 0 then -1 else 1048576 - n) - m) ≤ 1048576) → ((0 ≤ (if (if 1048576 - n < 0 then -1 else 1048576 - n) - m < 0 then -1 else (if 1048576 - n < 0 then -1 else 1048576 - n) - m)) → (((n = n) ∧ ((n ≤ 9223372036854775807) → (n ≤ 1048576))) ∧ (((n ≤ n) ∧ (∀ e3 : E, ((0 ≤ e3.den ∧ e3.den < n) → ((((X (e3.den))) = ((X (e3.den)))) ∧ (((Y (e3.den))) = ((Y (e3.den)))))))) ∧ ((0 ≤ n ∧ n ≤ 1048576) → (((m = m) ∧ ((m ≤ 9223372036854775807) → (m ≤ 1048576))) ∧ (((m ≤ m) ∧ (∀ e4 : E, ((0 ≤ e4.den ∧ e4.den < m) → ((((A (e4.den))) = ((A (e4.den)))) ∧ (((B (e4.den))) = ((B (e4.den)))))))) ∧ ((0 ≤ m ∧ m ≤ 1048576) → (((n = n) ∧ (m = m)) ∧ ((((n ≤ n) ∧ (∀ e6 : E, ((0 ≤ e6.den ∧ e6.den < n) → ((((X (e6.den))) = ((X (e6.den)))) ∧ (((Y (e6.den))) = ((Y (e6.den)))))))) ∧ ((m ≤ m) ∧ (∀ e5 : E, ((0 ≤ e5.den ∧ e5.den < m) → ((((A (e5.den))) = ((A (e5.den)))) ∧ (((B (e5.den))) = ((B (e5.den))))))))) ∧ (((n = n) ∧ ((n ≤ 9223372036854775807) → (n ≤ 1048576))) ∧ (((n ≤ n) ∧ (∀ e7 : E, ((0 ≤ e7.den ∧ e7.den < n) → ((((X (e7.den))) = ((X (e7.den)))) ∧ (((Y (e7.den))) = ((Y (e7.den)))))))) ∧ ((0 ≤ n ∧ n ≤ 1048576) → (((m = m) ∧ ((m ≤ 9223372036854775807) → (m ≤ 1048576))) ∧ (((m ≤ m) ∧ (∀ e8 : E, ((0 ≤ e8.den ∧ e8.den < m) → ((((A (e8.den))) = ((A (e8.den)))) ∧ (((B (e8.den))) = ((B (e8.den)))))))) ∧ ((0 ≤ m ∧ m ≤ 1048576) → (((n = n) ∧ (m = m)) ∧ ((((n ≤ n) ∧ (∀ e10 : E, ((0 ≤ e10.den ∧ e10.den < n) → ((((X (e10.den))) = ((X (e10.den)))) ∧ (((Y (e10.den))) = ((Y (e10.den)))))))) ∧ ((m ≤ m) ∧ (∀ e9 : E, ((0 ≤ e9.den ∧ e9.den < m) → ((((A (e9.den))) = ((A (e9.den)))) ∧ (((B (e9.den))) = ((B (e9.den))))))))) ∧ ((((((spB X Y n A B m) = true) ↔ ((spB X Y n A B m) = false))) → (False)) ∧ (((((spB X Y n A B m) = true) ↔ ((spB X Y n A B m) = true))) → (((n = n) ∧ ((n ≤ 9223372036854775807) → (n ≤ 1048576))) ∧ (((n ≤ n) ∧ (∀ e11 : E, ((0 ≤ e11.den ∧ e11.den < n) → ((((X (e11.den))) = ((X (e11.den)))) ∧ (((Y (e11.den))) = ((Y (e11.den)))))))) ∧ ((0 ≤ n ∧ n ≤ 1048576) → (((n = n) ∧ (n = n)) ∧ ((((n ≤ n) ∧ (∀ e13 : E, ((0 ≤ e13.den ∧ e13.den < n) → ((((X (e13.den))) = ((X (e13.den)))) ∧ (((Y (e13.den))) = ((Y (e13.den)))))))) ∧ ((n ≤ n) ∧ (∀ e12 : E, ((0 ≤ e12.den ∧ e12.den < n) → ((((X (e12.den))) = ((X (e12.den)))) ∧ (((Y (e12.den))) = ((Y (e12.den))))))))) ∧ ((((eqP X Y n X Y n) = false) → (False)) ∧ (((eqP X Y n X Y n) = true) → (((m = m) ∧ ((m ≤ 9223372036854775807) → (m ≤ 1048576))) ∧ (((m ≤ m) ∧ (∀ e14 : E, ((0 ≤ e14.den ∧ e14.den < m) → ((((A (e14.den))) = ((A (e14.den)))) ∧ (((B (e14.den))) = ((B (e14.den)))))))) ∧ ((0 ≤ m ∧ m ≤ 1048576) → (((m = m) ∧ (m = m)) ∧ ((((m ≤ m) ∧ (∀ e16 : E, ((0 ≤ e16.den ∧ e16.den < m) → ((((A (e16.den))) = ((A (e16.den)))) ∧ (((B (e16.den))) = ((B (e16.den)))))))) ∧ ((m ≤ m) ∧ (∀ e15 : E, ((0 ≤ e15.den ∧ e15.den < m) → ((((A (e15.den))) = ((A (e15.den)))) ∧ (((B (e15.den))) = ((B (e15.den))))))))) ∧ (((eqP A B m A B m) = false) → (False))))))))))))))))))))))))))))))))))))))))) (by kernel_rfl) ?_
  intro h1 h2
  refine ⟨⟨rfl, rfl⟩, ⟨Int.le_refl _, fun _ => fun _ => ⟨rfl, rfl⟩⟩, ?_⟩
  intro c19
  intro c20
  refine ⟨?_, ⟨Int.le_refl _, fun _ => fun _ => ⟨rfl, rfl⟩⟩, ?_⟩
  · refine ⟨rfl, rfl, ?_⟩
    intro c21
    -- 1: 0 ≤ (if 1048576 - n < 0 then -1 else 1048576 - n) ∧ (if 1048576 - n < 0 then -1 else 1048576 - n) ≤ 
    first | rfl | omega | exact eqP_refl _ _ _ | (simp_all [eqP_refl]; done) | (simp_all [eqP_refl]; omega)
  · intro c22
    intro c23
    refine ⟨?_, ⟨Int.le_refl _, fun _ => fun _ => ⟨rfl, rfl⟩⟩, ?_⟩
    · refine ⟨rfl, ?_⟩
      intro c24
      -- 2: n ≤ 1048576
      first | rfl | omega | exact eqP_refl _ _ _ | (simp_all [eqP_refl]; done) | (simp_all [eqP_refl]; omega)
    · intro c25
      refine ⟨?_, ⟨Int.le_refl _, fun _ => fun _ => ⟨rfl, rfl⟩⟩, ?_⟩
      · refine ⟨rfl, ?_⟩
        intro c26
        -- 3: m ≤ 1048576
        first | rfl | omega | exact eqP_refl _ _ _ | (simp_all [eqP_refl]; done) | (simp_all [eqP_refl]; omega)
      · intro c27
        refine ⟨⟨rfl, rfl⟩, ⟨⟨Int.le_refl _, fun _ => fun _ => ⟨rfl, rfl⟩⟩, ⟨Int.le_refl _, fun _ => fun _ => ⟨rfl, rfl⟩⟩⟩, ?_, ⟨Int.le_refl _, fun _ => fun _ => ⟨rfl, rfl⟩⟩, ?_⟩
        · refine ⟨rfl, ?_⟩
          intro c28
          -- 4: n ≤ 1048576
          first | rfl | omega | exact eqP_refl _ _ _ | (simp_all [eqP_refl]; done) | (simp_all [eqP_refl]; omega)
        · intro c29
          refine ⟨?_, ⟨Int.le_refl _, fun _ => fun _ => ⟨rfl, rfl⟩⟩, ?_⟩
          · refine ⟨rfl, ?_⟩
            intro c30
            -- 5: m ≤ 1048576
            first | rfl | omega | exact eqP_refl _ _ _ | (simp_all [eqP_refl]; done) | (simp_all [eqP_refl]; omega)
          · intro c31
            refine ⟨⟨rfl, rfl⟩, ⟨⟨Int.le_refl _, fun _ => fun _ => ⟨rfl, rfl⟩⟩, ⟨Int.le_refl _, fun _ => fun _ => ⟨rfl, rfl⟩⟩⟩, ?_, ?_⟩
            · intro c32
              -- 6: False
              first | rfl | omega | exact eqP_refl _ _ _ | (simp_all [eqP_refl]; done) | (simp_all [eqP_refl]; omega)
            · intro c33
              refine ⟨?_, ⟨Int.le_refl _, fun _ => fun _ => ⟨rfl, rfl⟩⟩, ?_⟩
              · refine ⟨rfl, ?_⟩
                intro c34
                -- 7: n ≤ 1048576
                first | rfl | omega | exact eqP_refl _ _ _ | (simp_all [eqP_refl]; done) | (simp_all [eqP_refl]; omega)
              · intro c35
                refine ⟨⟨rfl, rfl⟩, ⟨⟨Int.le_refl _, fun _ => fun _ => ⟨rfl, rfl⟩⟩, ⟨Int.le_refl _, fun _ => fun _ => ⟨rfl, rfl⟩⟩⟩, ?_, ?_⟩
                · intro c36
                  -- 8: False
                  first | rfl | omega | exact eqP_refl _ _ _ | (simp_all [eqP_refl]; done) | (simp_all [eqP_refl]; omega)
                · intro c37
                  refine ⟨?_, ⟨Int.le_refl _, fun _ => fun _ => ⟨rfl, rfl⟩⟩, ?_⟩
                  · refine ⟨rfl, ?_⟩
                    intro c38
                    -- 9: m ≤ 1048576
                    first | rfl | omega | exact eqP_refl _ _ _ | (simp_all [eqP_refl]; done) | (simp_all [eqP_refl]; omega)
                  · intro c39
                    refine ⟨⟨rfl, rfl⟩, ⟨⟨Int.le_refl _, fun _ => fun _ => ⟨rfl, rfl⟩⟩, ⟨Int.le_refl _, fun _ => fun _ => ⟨rfl, rfl⟩⟩⟩, ?_⟩
                    intro c40
                    -- 10: False
                    first | rfl | omega | exact eqP_refl _ _ _ | (simp_all [eqP_refl]; done) | (simp_all [eqP_refl]; omega)
def c_l_FnExactCheckSpanning (X : Int → Int) (Y : Int → Int) (n : Int) (A : Int → Int) (B : Int → Int) (m : Int) : Cn Try.prog := ⟨_, _, _, _, _, l_FnExactCheckSpanning X Y n A B m⟩
end Go.Proofs.Ytcfkpdjbjfnnmaa
