/- What the exact laws of rectangles use: copies, comparisons. -/
import Derived.Test.YtpnjopppclmfkaaK35
import Derived.Test.YtpnjopppclmfkaaK10
set_option linter.unusedSimpArgs false
set_option linter.unusedVariables false
set_option maxRecDepth 100000
namespace Go.Proofs.Ytpnjopppclmfkaa
open Go.Sym
def eqR (A B D F : Int → Int) (n : Int) (A2 B2 D2 F2 : Int → Int) (m : Int) : Bool := decide (n = m) && allB (fun i => (decide (A i = A2 i) && decide (B i = B2 i)) && (decide (D i = D2 i) && decide (F i = F2 i))) n
theorem eqR_refl (A B D F : Int → Int) (n : Int) : eqR A B D F n A B D F n = true := by
  unfold eqR
  rw [decide_eq_true rfl, Bool.true_and]
  exact allB_iff.2 fun i _ _ => by simp
theorem l_toRect (sAX : Int) (sAY : Int) (sBX : Int) (sBY : Int) : RunsTo Try.prog 72 [(.agg [(.int .i64 (.v fun _ => sAX) (-9223372036854775808) 9223372036854775807), (.int .i64 (.v fun _ => sAY) (-9223372036854775808) 9223372036854775807), (.int .i64 (.v fun _ => sBX) (-9223372036854775808) 9223372036854775807), (.int .i64 (.v fun _ => sBY) (-9223372036854775808) 9223372036854775807)])] [] (.agg [(.int .i64 (.v fun _ => sAX) (-9223372036854775808) 9223372036854775807), (.int .i64 (.v fun _ => sAY) (-9223372036854775808) 9223372036854775807), (.int .i64 (.v fun _ => sBX) (-9223372036854775808) 9223372036854775807), (.int .i64 (.v fun _ => sBY) (-9223372036854775808) 9223372036854775807)]) [] := by
  refine RunsTo.go env Try.func72 rfl Try.call72 rfl rfl (fun _ _ => (.call (c_l_toPoint sAX sAY) (.call (c_l_toPoint sBX sBY) .ret))) (G := (((-9223372036854775808) ≤ sAX ∧ sAX ≤ 9223372036854775807) ∧ (((-9223372036854775808) ≤ sAY ∧ sAY ≤ 9223372036854775807) ∧ (((-9223372036854775808) ≤ sBX ∧ sBX ≤ 9223372036854775807) ∧ ((-9223372036854775808) ≤ sBY ∧ sBY ≤ 9223372036854775807)))) → (True) → (((sAX = sAX) ∧ (sAY = sAY)) ∧ (((sBX = sBX) ∧ (sBY = sBY)) ∧ ((sAX = sAX) ∧ ((sAY = sAY) ∧ ((sBX = sBX) ∧ (sBY = sBY))))))) (by kernel_rfl) ?_
  intro h1 h2
  exact ⟨⟨rfl, rfl⟩, ⟨⟨rfl, rfl⟩, ⟨rfl, ⟨rfl, ⟨rfl, rfl⟩⟩⟩⟩⟩
def c_l_toRect (sAX : Int) (sAY : Int) (sBX : Int) (sBY : Int) : Cn Try.prog := ⟨_, _, _, _, _, l_toRect sAX sAY sBX sBY⟩
theorem l_szRectS (A : Int → Int) (B : Int → Int) (D : Int → Int) (F : Int → Int) (n : Int) (t : Int) : RunsTo Try.prog 34 [(.sl 0 4 (.lit 0) (.v fun _ => n) 9223372036854775807), (.int .i64 (.v fun _ => t) 0 1048576)] [some ⟨84, 4, false, (.sym (.v fun _ => n) fun e => [(.int .i64 (.v fun _ => (A (e.den))) (-9223372036854775808) 9223372036854775807), (.int .i64 (.v fun _ => (B (e.den))) (-9223372036854775808) 9223372036854775807), (.int .i64 (.v fun _ => (D (e.den))) (-9223372036854775808) 9223372036854775807), (.int .i64 (.v fun _ => (F (e.den))) (-9223372036854775808) 9223372036854775807)])⟩] (.int .i64 (.v fun _ => if t - n < 0 then -1 else t - n) (-1) 1048576) [some ⟨84, 4, false, (.sym (.v fun _ => n) fun e => [(.int .i64 (.v fun _ => (A (e.den))) (-9223372036854775808) 9223372036854775807), (.int .i64 (.v fun _ => (B (e.den))) (-9223372036854775808) 9223372036854775807), (.int .i64 (.v fun _ => (D (e.den))) (-9223372036854775808) 9223372036854775807), (.int .i64 (.v fun _ => (F (e.den))) (-9223372036854775808) 9223372036854775807)])⟩] := by
  refine RunsTo.go env Try.func34 rfl Try.call34 rfl rfl (fun _ _ => (.ite .ret .ret)) (G := ((0 ≤ n ∧ n ≤ 9223372036854775807) ∧ (0 ≤ t ∧ t ≤ 1048576)) → (∀ e3 : E, ((0 ≤ e3.den ∧ e3.den < n) → (((-9223372036854775808) ≤ ((A (e3.den))) ∧ ((A (e3.den))) ≤ 9223372036854775807) ∧ (((-9223372036854775808) ≤ ((B (e3.den))) ∧ ((B (e3.den))) ≤ 9223372036854775807) ∧ (((-9223372036854775808) ≤ ((D (e3.den))) ∧ ((D (e3.den))) ≤ 9223372036854775807) ∧ ((-9223372036854775808) ≤ ((F (e3.den))) ∧ ((F (e3.den))) ≤ 9223372036854775807)))))) → ((((t - n) < 0) → ((((-1) : Int) = (if t - n < 0 then -1 else t - n)) ∧ ((n ≤ n) ∧ (∀ e1 : E, ((0 ≤ e1.den ∧ e1.den < n) → ((((A (e1.den))) = ((A (e1.den)))) ∧ ((((B (e1.den))) = ((B (e1.den)))) ∧ ((((D (e1.den))) = ((D (e1.den)))) ∧ (((F (e1.den))) = ((F (e1.den)))))))))))) ∧ ((0 ≤ (t - n)) → ((((t - n) = (if t - n < 0 then -1 else t - n)) ∧ (((-9223372036854775807) ≤ (t - n) ∧ (t - n) ≤ 1048576) → ((-1) ≤ (if t - n < 0 then -1 else t - n) ∧ (if t - n < 0 then -1 else t - n) ≤ 1048576))) ∧ ((n ≤ n) ∧ (∀ e2 : E, ((0 ≤ e2.den ∧ e2.den < n) → ((((A (e2.den))) = ((A (e2.den)))) ∧ ((((B (e2.den))) = ((B (e2.den)))) ∧ ((((D (e2.den))) = ((D (e2.den)))) ∧ (((F (e2.den))) = ((F (e2.den)))))))))))))) (by kernel_rfl) ?_
  intro h1 h2
  refine ⟨?_, ?_⟩
  · intro c4
    refine ⟨?_, Int.le_refl _, fun _ => fun _ => ⟨rfl, ⟨rfl, ⟨rfl, rfl⟩⟩⟩⟩
    -- 1: ((-1) : Int) = (if t - n < 0 then -1 else t - n)
    first | rfl | omega | (split <;> omega) | fail
  · intro c5
    refine ⟨?_, Int.le_refl _, fun _ => fun _ => ⟨rfl, ⟨rfl, ⟨rfl, rfl⟩⟩⟩⟩
    refine ⟨?_, ?_⟩
      -- 2: (t - n) = (if t - n < 0 then -1 else t - n)
    · first | rfl | omega | (split <;> omega) | fail
    · intro c6
      -- 3: (-1) ≤ (if t - n < 0 then -1 else t - n) ∧ (if t - n < 0 then -1 else t - n) ≤ 1048576
      first | rfl | omega | (split <;> omega) | fail
def c_l_szRectS (A : Int → Int) (B : Int → Int) (D : Int → Int) (F : Int → Int) (n : Int) (t : Int) : Cn Try.prog := ⟨_, _, _, _, _, l_szRectS A B D F n t⟩
theorem l_toRectS (A : Int → Int) (B : Int → Int) (D : Int → Int) (F : Int → Int) (n : Int) : RunsTo Try.prog 36 [(.sl 0 4 (.lit 0) (.v fun _ => n) 1048576)] [some ⟨84, 4, false, (.sym (.v fun _ => n) fun e => [(.int .i64 (.v fun _ => (A (e.den))) (-9223372036854775808) 9223372036854775807), (.int .i64 (.v fun _ => (B (e.den))) (-9223372036854775808) 9223372036854775807), (.int .i64 (.v fun _ => (D (e.den))) (-9223372036854775808) 9223372036854775807), (.int .i64 (.v fun _ => (F (e.den))) (-9223372036854775808) 9223372036854775807)])⟩] (.sl 1 4 (.lit 0) (.v fun _ => n) 1048576) [some ⟨84, 4, false, (.sym (.v fun _ => n) fun e => [(.int .i64 (.v fun _ => (A (e.den))) (-9223372036854775808) 9223372036854775807), (.int .i64 (.v fun _ => (B (e.den))) (-9223372036854775808) 9223372036854775807), (.int .i64 (.v fun _ => (D (e.den))) (-9223372036854775808) 9223372036854775807), (.int .i64 (.v fun _ => (F (e.den))) (-9223372036854775808) 9223372036854775807)])⟩, some ⟨57, 4, true, (.sym (.v fun _ => n) fun e => [(.int .i64 (.v fun _ => (A (e.den))) (-9223372036854775808) 9223372036854775807), (.int .i64 (.v fun _ => (B (e.den))) (-9223372036854775808) 9223372036854775807), (.int .i64 (.v fun _ => (D (e.den))) (-9223372036854775808) 9223372036854775807), (.int .i64 (.v fun _ => (F (e.den))) (-9223372036854775808) 9223372036854775807)])⟩] := by
  refine RunsTo.go env Try.func36 rfl Try.call36 rfl rfl (fun _ _ => (.need (.loop [] [0, 1] (Int) (fun x1 => ⟨spl 23 0 [(0, (.sl 0 4 (.lit 0) (.v fun _ => n) 1048576)), (2, (.raw (.slice none 0 0))), (3, (.sl 1 4 (.lit 0) (.v fun _ => n) 1048576)), (4, (.int .i64 (.v fun _ => x1) 0 1048576))], [some ⟨84, 4, false, (.sym (.v fun _ => n) fun e => [(.int .i64 (.v fun _ => (A (e.den))) (-9223372036854775808) 9223372036854775807), (.int .i64 (.v fun _ => (B (e.den))) (-9223372036854775808) 9223372036854775807), (.int .i64 (.v fun _ => (D (e.den))) (-9223372036854775808) 9223372036854775807), (.int .i64 (.v fun _ => (F (e.den))) (-9223372036854775808) 9223372036854775807)])⟩, some ⟨57, 4, true, (.sym (.v fun _ => n) fun e => [(.int .i64 (.v fun _ => cpy A x1 (e.den)) (-9223372036854775808) 9223372036854775807), (.int .i64 (.v fun _ => cpy B x1 (e.den)) (-9223372036854775808) 9223372036854775807), (.int .i64 (.v fun _ => cpy D x1 (e.den)) (-9223372036854775808) 9223372036854775807), (.int .i64 (.v fun _ => cpy F x1 (e.den)) (-9223372036854775808) 9223372036854775807)])⟩], 1⟩) (fun x1 => 0 ≤ x1 ∧ x1 ≤ n) (fun x1 => (n - x1).toNat) fun x1 => (.ite (.need (.need (.call (c_l_toRect ((A (x1))) ((B (x1))) ((D (x1))) ((F (x1)))) (.need (.need (.next [0, 1])))))) (.out .ret))))) (G := (0 ≤ n ∧ n ≤ 1048576) → (∀ e11 : E, ((0 ≤ e11.den ∧ e11.den < n) → (((-9223372036854775808) ≤ ((A (e11.den))) ∧ ((A (e11.den))) ≤ 9223372036854775807) ∧ (((-9223372036854775808) ≤ ((B (e11.den))) ∧ ((B (e11.den))) ≤ 9223372036854775807) ∧ (((-9223372036854775808) ≤ ((D (e11.den))) ∧ ((D (e11.den))) ≤ 9223372036854775807) ∧ ((-9223372036854775808) ≤ ((F (e11.den))) ∧ ((F (e11.den))) ≤ 9223372036854775807)))))) → ((n ≤ n) ∧ ((∃ y2 : Int, ((0 ≤ y2 ∧ y2 ≤ n) ∧ (((n = n) ∧ ((((.slice none 0 0) : Value) = (.slice none 0 0)) ∧ ((n = n) ∧ ((0 : Int) = y2)))) ∧ (((n ≤ n) ∧ (∀ e4 : E, ((0 ≤ e4.den ∧ e4.den < n) → ((((A (e4.den))) = ((A (e4.den)))) ∧ ((((B (e4.den))) = ((B (e4.den)))) ∧ ((((D (e4.den))) = ((D (e4.den)))) ∧ (((F (e4.den))) = ((F (e4.den)))))))))) ∧ ((n ≤ n) ∧ (∀ e3 : E, ((0 ≤ e3.den ∧ e3.den < n) → (((0 : Int) = (cpy A y2 (e3.den))) ∧ (((0 : Int) = (cpy B y2 (e3.den))) ∧ (((0 : Int) = (cpy D y2 (e3.den))) ∧ ((0 : Int) = (cpy F y2 (e3.den))))))))))))) ∧ (∀ x1 : Int, ((0 ≤ x1 ∧ x1 ≤ n) → (((x1 < n) → ((((0 ≤ x1) ∧ (x1 < n))) ∧ ((x1 < n) ∧ (((((A (x1))) = ((A (x1)))) ∧ ((((B (x1))) = ((B (x1)))) ∧ ((((D (x1))) = ((D (x1)))) ∧ (((F (x1))) = ((F (x1))))))) ∧ ((((0 ≤ x1) ∧ (x1 < n))) ∧ ((x1 < n) ∧ (∃ y5 : Int, ((0 ≤ y5 ∧ y5 ≤ n) ∧ ((((n = n) ∧ ((((.slice none 0 0) : Value) = (.slice none 0 0)) ∧ ((n = n) ∧ (((x1 + 1) = y5) ∧ ((1 ≤ (x1 + 1) ∧ (x1 + 1) ≤ 1048577) → (0 ≤ y5 ∧ y5 ≤ 1048576)))))) ∧ (((n ≤ n) ∧ (∀ e8 : E, ((0 ≤ e8.den ∧ e8.den < n) → ((((A (e8.den))) = ((A (e8.den)))) ∧ ((((B (e8.den))) = ((B (e8.den)))) ∧ ((((D (e8.den))) = ((D (e8.den)))) ∧ (((F (e8.den))) = ((F (e8.den)))))))))) ∧ ((n = n) ∧ ((∀ e7 : E, ((0 ≤ e7.den ∧ e7.den < n ∧ e7.den ≠ x1) → (((cpy A x1 (e7.den)) = (cpy A y5 (e7.den))) ∧ (((cpy B x1 (e7.den)) = (cpy B y5 (e7.den))) ∧ (((cpy D x1 (e7.den)) = (cpy D y5 (e7.den))) ∧ ((cpy F x1 (e7.den)) = (cpy F y5 (e7.den)))))))) ∧ (∀ e6 : E, ((e6.den.toNat = (x1 : Int).toNat ∧ 0 ≤ e6.den) → ((((A (x1))) = (cpy A y5 (e6.den))) ∧ ((((B (x1))) = (cpy B y5 (e6.den))) ∧ ((((D (x1))) = (cpy D y5 (e6.den))) ∧ (((F (x1))) = (cpy F y5 (e6.den)))))))))))) ∧ ((n - y5).toNat < (n - x1).toNat)))))))))) ∧ ((n ≤ x1) → ((n = n) ∧ (((n ≤ n) ∧ (∀ e10 : E, ((0 ≤ e10.den ∧ e10.den < n) → ((((A (e10.den))) = ((A (e10.den)))) ∧ ((((B (e10.den))) = ((B (e10.den)))) ∧ ((((D (e10.den))) = ((D (e10.den)))) ∧ (((F (e10.den))) = ((F (e10.den)))))))))) ∧ ((n ≤ n) ∧ (∀ e9 : E, ((0 ≤ e9.den ∧ e9.den < n) → (((cpy A x1 (e9.den)) = ((A (e9.den)))) ∧ (((cpy B x1 (e9.den)) = ((B (e9.den)))) ∧ (((cpy D x1 (e9.den)) = ((D (e9.den)))) ∧ ((cpy F x1 (e9.den)) = ((F (e9.den))))))))))))))))))) (by kernel_rfl) ?_
  intro h1 h2
  refine ⟨?_, ?_, ?_⟩
    -- 1: n ≤ n
  · first | rfl | omega | (simp [cpy, *]; done) | (simp [cpy, *]; omega) | (unfold cpy; rw [if_neg (by omega)]; done) | (unfold cpy; rw [if_pos (by omega)]; done) | (simp only [cpy]; rw [if_pos (by omega)]; congr 1; omega) | fail
  · refine ⟨0, ?_⟩
    try dsimp only
    refine ⟨?_, ?_, ⟨Int.le_refl _, fun _ => fun _ => ⟨rfl, ⟨rfl, ⟨rfl, rfl⟩⟩⟩⟩, Int.le_refl _, ?_⟩
      -- 2: 0 ≤ y2 ∧ y2 ≤ n
    · first | rfl | omega | (simp [cpy, *]; done) | (simp [cpy, *]; omega) | (unfold cpy; rw [if_neg (by omega)]; done) | (unfold cpy; rw [if_pos (by omega)]; done) | (simp only [cpy]; rw [if_pos (by omega)]; congr 1; omega) | fail
    · refine ⟨rfl, rfl, rfl, ?_⟩
      -- 3: (0 : Int) = y2
      first | rfl | omega | (simp [cpy, *]; done) | (simp [cpy, *]; omega) | (unfold cpy; rw [if_neg (by omega)]; done) | (unfold cpy; rw [if_pos (by omega)]; done) | (simp only [cpy]; rw [if_pos (by omega)]; congr 1; omega) | fail
    · intro e3
      intro c12
      refine ⟨?_, ?_, ?_, ?_⟩
        -- 4: (0 : Int) = (cpy A y2 (e3.den))
      · first | rfl | omega | (simp [cpy, *]; done) | (simp [cpy, *]; omega) | (unfold cpy; rw [if_neg (by omega)]; done) | (unfold cpy; rw [if_pos (by omega)]; done) | (simp only [cpy]; rw [if_pos (by omega)]; congr 1; omega) | fail
        -- 5: (0 : Int) = (cpy B y2 (e3.den))
      · first | rfl | omega | (simp [cpy, *]; done) | (simp [cpy, *]; omega) | (unfold cpy; rw [if_neg (by omega)]; done) | (unfold cpy; rw [if_pos (by omega)]; done) | (simp only [cpy]; rw [if_pos (by omega)]; congr 1; omega) | fail
        -- 6: (0 : Int) = (cpy D y2 (e3.den))
      · first | rfl | omega | (simp [cpy, *]; done) | (simp [cpy, *]; omega) | (unfold cpy; rw [if_neg (by omega)]; done) | (unfold cpy; rw [if_pos (by omega)]; done) | (simp only [cpy]; rw [if_pos (by omega)]; congr 1; omega) | fail
        -- 7: (0 : Int) = (cpy F y2 (e3.den))
      · first | rfl | omega | (simp [cpy, *]; done) | (simp [cpy, *]; omega) | (unfold cpy; rw [if_neg (by omega)]; done) | (unfold cpy; rw [if_pos (by omega)]; done) | (simp only [cpy]; rw [if_pos (by omega)]; congr 1; omega) | fail
  · intro j
    intro I1
    refine ⟨?_, ?_⟩
    · intro c13
      refine ⟨?_, ?_, ⟨rfl, ⟨rfl, ⟨rfl, rfl⟩⟩⟩, ?_, ?_, ?_⟩
        -- 8: ((0 ≤ x1) ∧ (x1 < n))
      · first | rfl | omega | (simp [cpy, *]; done) | (simp [cpy, *]; omega) | (unfold cpy; rw [if_neg (by omega)]; done) | (unfold cpy; rw [if_pos (by omega)]; done) | (simp only [cpy]; rw [if_pos (by omega)]; congr 1; omega) | fail
        -- 9: x1 < n
      · first | rfl | omega | (simp [cpy, *]; done) | (simp [cpy, *]; omega) | (unfold cpy; rw [if_neg (by omega)]; done) | (unfold cpy; rw [if_pos (by omega)]; done) | (simp only [cpy]; rw [if_pos (by omega)]; congr 1; omega) | fail
        -- 10: ((0 ≤ x1) ∧ (x1 < n))
      · first | rfl | omega | (simp [cpy, *]; done) | (simp [cpy, *]; omega) | (unfold cpy; rw [if_neg (by omega)]; done) | (unfold cpy; rw [if_pos (by omega)]; done) | (simp only [cpy]; rw [if_pos (by omega)]; congr 1; omega) | fail
        -- 11: x1 < n
      · first | rfl | omega | (simp [cpy, *]; done) | (simp [cpy, *]; omega) | (unfold cpy; rw [if_neg (by omega)]; done) | (unfold cpy; rw [if_pos (by omega)]; done) | (simp only [cpy]; rw [if_pos (by omega)]; congr 1; omega) | fail
      · refine ⟨j + 1, ?_⟩
        try dsimp only
        refine ⟨?_, ?_, ?_⟩
          -- 12: 0 ≤ y5 ∧ y5 ≤ n
        · first | rfl | omega | (simp [cpy, *]; done) | (simp [cpy, *]; omega) | (unfold cpy; rw [if_neg (by omega)]; done) | (unfold cpy; rw [if_pos (by omega)]; done) | (simp only [cpy]; rw [if_pos (by omega)]; congr 1; omega) | fail
        · refine ⟨?_, ⟨Int.le_refl _, fun _ => fun _ => ⟨rfl, ⟨rfl, ⟨rfl, rfl⟩⟩⟩⟩, rfl, ?_, ?_⟩
          · refine ⟨rfl, rfl, rfl, ?_, ?_⟩
              -- 13: (x1 + 1) = y5
            · first | rfl | omega | (simp [cpy, *]; done) | (simp [cpy, *]; omega) | (unfold cpy; rw [if_neg (by omega)]; done) | (unfold cpy; rw [if_pos (by omega)]; done) | (simp only [cpy]; rw [if_pos (by omega)]; congr 1; omega) | fail
            · intro c14
              -- 14: 0 ≤ y5 ∧ y5 ≤ 1048576
              first | rfl | omega | (simp [cpy, *]; done) | (simp [cpy, *]; omega) | (unfold cpy; rw [if_neg (by omega)]; done) | (unfold cpy; rw [if_pos (by omega)]; done) | (simp only [cpy]; rw [if_pos (by omega)]; congr 1; omega) | fail
          · intro e7
            intro c15
            refine ⟨?_, ?_, ?_, ?_⟩
              -- 15: (cpy A x1 (e7.den)) = (cpy A y5 (e7.den))
            · first | rfl | omega | (simp [cpy, *]; done) | (simp [cpy, *]; omega) | (unfold cpy; rw [if_neg (by omega)]; done) | (unfold cpy; rw [if_pos (by omega)]; done) | (simp only [cpy]; rw [if_pos (by omega)]; congr 1; omega) | fail
              -- 16: (cpy B x1 (e7.den)) = (cpy B y5 (e7.den))
            · first | rfl | omega | (simp [cpy, *]; done) | (simp [cpy, *]; omega) | (unfold cpy; rw [if_neg (by omega)]; done) | (unfold cpy; rw [if_pos (by omega)]; done) | (simp only [cpy]; rw [if_pos (by omega)]; congr 1; omega) | fail
              -- 17: (cpy D x1 (e7.den)) = (cpy D y5 (e7.den))
            · first | rfl | omega | (simp [cpy, *]; done) | (simp [cpy, *]; omega) | (unfold cpy; rw [if_neg (by omega)]; done) | (unfold cpy; rw [if_pos (by omega)]; done) | (simp only [cpy]; rw [if_pos (by omega)]; congr 1; omega) | fail
              -- 18: (cpy F x1 (e7.den)) = (cpy F y5 (e7.den))
            · first | rfl | omega | (simp [cpy, *]; done) | (simp [cpy, *]; omega) | (unfold cpy; rw [if_neg (by omega)]; done) | (unfold cpy; rw [if_pos (by omega)]; done) | (simp only [cpy]; rw [if_pos (by omega)]; congr 1; omega) | fail
          · intro e6
            intro c16
            refine ⟨?_, ?_, ?_, ?_⟩
              -- 19: ((A (x1))) = (cpy A y5 (e6.den))
            · first | rfl | omega | (simp [cpy, *]; done) | (simp [cpy, *]; omega) | (unfold cpy; rw [if_neg (by omega)]; done) | (unfold cpy; rw [if_pos (by omega)]; done) | (simp only [cpy]; rw [if_pos (by omega)]; congr 1; omega) | fail
              -- 20: ((B (x1))) = (cpy B y5 (e6.den))
            · first | rfl | omega | (simp [cpy, *]; done) | (simp [cpy, *]; omega) | (unfold cpy; rw [if_neg (by omega)]; done) | (unfold cpy; rw [if_pos (by omega)]; done) | (simp only [cpy]; rw [if_pos (by omega)]; congr 1; omega) | fail
              -- 21: ((D (x1))) = (cpy D y5 (e6.den))
            · first | rfl | omega | (simp [cpy, *]; done) | (simp [cpy, *]; omega) | (unfold cpy; rw [if_neg (by omega)]; done) | (unfold cpy; rw [if_pos (by omega)]; done) | (simp only [cpy]; rw [if_pos (by omega)]; congr 1; omega) | fail
              -- 22: ((F (x1))) = (cpy F y5 (e6.den))
            · first | rfl | omega | (simp [cpy, *]; done) | (simp [cpy, *]; omega) | (unfold cpy; rw [if_neg (by omega)]; done) | (unfold cpy; rw [if_pos (by omega)]; done) | (simp only [cpy]; rw [if_pos (by omega)]; congr 1; omega) | fail
          -- 23: (n - y5).toNat < (n - x1).toNat
        · first | rfl | omega | (simp [cpy, *]; done) | (simp [cpy, *]; omega) | (unfold cpy; rw [if_neg (by omega)]; done) | (unfold cpy; rw [if_pos (by omega)]; done) | (simp only [cpy]; rw [if_pos (by omega)]; congr 1; omega) | fail
    · intro c17
      refine ⟨rfl, ⟨Int.le_refl _, fun _ => fun _ => ⟨rfl, ⟨rfl, ⟨rfl, rfl⟩⟩⟩⟩, Int.le_refl _, ?_⟩
      intro e9
      intro c18
      refine ⟨?_, ?_, ?_, ?_⟩
        -- 24: (cpy A x1 (e9.den)) = ((A (e9.den)))
      · first | rfl | omega | (simp [cpy, *]; done) | (simp [cpy, *]; omega) | (unfold cpy; rw [if_neg (by omega)]; done) | (unfold cpy; rw [if_pos (by omega)]; done) | (simp only [cpy]; rw [if_pos (by omega)]; congr 1; omega) | fail
        -- 25: (cpy B x1 (e9.den)) = ((B (e9.den)))
      · first | rfl | omega | (simp [cpy, *]; done) | (simp [cpy, *]; omega) | (unfold cpy; rw [if_neg (by omega)]; done) | (unfold cpy; rw [if_pos (by omega)]; done) | (simp only [cpy]; rw [if_pos (by omega)]; congr 1; omega) | fail
        -- 26: (cpy D x1 (e9.den)) = ((D (e9.den)))
      · first | rfl | omega | (simp [cpy, *]; done) | (simp [cpy, *]; omega) | (unfold cpy; rw [if_neg (by omega)]; done) | (unfold cpy; rw [if_pos (by omega)]; done) | (simp only [cpy]; rw [if_pos (by omega)]; congr 1; omega) | fail
        -- 27: (cpy F x1 (e9.den)) = ((F (e9.den)))
      · first | rfl | omega | (simp [cpy, *]; done) | (simp [cpy, *]; omega) | (unfold cpy; rw [if_neg (by omega)]; done) | (unfold cpy; rw [if_pos (by omega)]; done) | (simp only [cpy]; rw [if_pos (by omega)]; congr 1; omega) | fail
def c_l_toRectS (A : Int → Int) (B : Int → Int) (D : Int → Int) (F : Int → Int) (n : Int) : Cn Try.prog := ⟨_, _, _, _, _, l_toRectS A B D F n⟩
theorem l_eqRect (sAX : Int) (sAY : Int) (sBX : Int) (sBY : Int) (tAX : Int) (tAY : Int) (tBX : Int) (tBY : Int) : RunsTo Try.prog 75 [(.agg [(.int .i64 (.v fun _ => sAX) (-9223372036854775808) 9223372036854775807), (.int .i64 (.v fun _ => sAY) (-9223372036854775808) 9223372036854775807), (.int .i64 (.v fun _ => sBX) (-9223372036854775808) 9223372036854775807), (.int .i64 (.v fun _ => sBY) (-9223372036854775808) 9223372036854775807)]), (.agg [(.int .i64 (.v fun _ => tAX) (-9223372036854775808) 9223372036854775807), (.int .i64 (.v fun _ => tAY) (-9223372036854775808) 9223372036854775807), (.int .i64 (.v fun _ => tBX) (-9223372036854775808) 9223372036854775807), (.int .i64 (.v fun _ => tBY) (-9223372036854775808) 9223372036854775807)])] [] (.bool (.v fun _ => (decide (sAX = tAX) && decide (sAY = tAY)) && (decide (sBX = tBX) && decide (sBY = tBY)))) [] := by
  refine RunsTo.go env Try.func75 rfl Try.call75 rfl rfl (fun _ _ => (.call (c_l_eqPoint sAX sAY tAX tAY) (.ite .ret (.call (c_l_eqPoint sBX sBY tBX tBY) (.ite .ret .ret))))) (G := ((((-9223372036854775808) ≤ sAX ∧ sAX ≤ 9223372036854775807) ∧ (((-9223372036854775808) ≤ sAY ∧ sAY ≤ 9223372036854775807) ∧ (((-9223372036854775808) ≤ sBX ∧ sBX ≤ 9223372036854775807) ∧ ((-9223372036854775808) ≤ sBY ∧ sBY ≤ 9223372036854775807)))) ∧ (((-9223372036854775808) ≤ tAX ∧ tAX ≤ 9223372036854775807) ∧ (((-9223372036854775808) ≤ tAY ∧ tAY ≤ 9223372036854775807) ∧ (((-9223372036854775808) ≤ tBX ∧ tBX ≤ 9223372036854775807) ∧ ((-9223372036854775808) ≤ tBY ∧ tBY ≤ 9223372036854775807))))) → (True) → ((((sAX = sAX) ∧ (sAY = sAY)) ∧ ((tAX = tAX) ∧ (tAY = tAY))) ∧ ((((decide (sAX = tAX) && decide (sAY = tAY)) = false) → (((decide (sAX = tAX) && decide (sAY = tAY)) && (decide (sBX = tBX) && decide (sBY = tBY))) = false)) ∧ (((decide (sAX = tAX) && decide (sAY = tAY)) = true) → ((((sBX = sBX) ∧ (sBY = sBY)) ∧ ((tBX = tBX) ∧ (tBY = tBY))) ∧ ((((decide (sBX = tBX) && decide (sBY = tBY)) = false) → (((decide (sAX = tAX) && decide (sAY = tAY)) && (decide (sBX = tBX) && decide (sBY = tBY))) = false)) ∧ (((decide (sBX = tBX) && decide (sBY = tBY)) = true) → (((decide (sAX = tAX) && decide (sAY = tAY)) && (decide (sBX = tBX) && decide (sBY = tBY))) = true)))))))) (by kernel_rfl) ?_
  intro h1 h2
  refine ⟨⟨⟨rfl, rfl⟩, ⟨rfl, rfl⟩⟩, ?_, ?_⟩
  · intro c1
    -- 1: ((decide (sAX = tAX) && decide (sAY = tAY)) && (decide (sBX = tBX) && decide (sBY = tBY))) = false
    first | rfl | omega | (simp_all; done) | (simp_all; omega) | fail
  · intro c2
    refine ⟨⟨⟨rfl, rfl⟩, ⟨rfl, rfl⟩⟩, ?_, ?_⟩
    · intro c3
      -- 2: ((decide (sAX = tAX) && decide (sAY = tAY)) && (decide (sBX = tBX) && decide (sBY = tBY))) = false
      first | rfl | omega | (simp_all; done) | (simp_all; omega) | fail
    · intro c4
      -- 3: ((decide (sAX = tAX) && decide (sAY = tAY)) && (decide (sBX = tBX) && decide (sBY = tBY))) = true
      first | rfl | omega | (simp_all; done) | (simp_all; omega) | fail
def c_l_eqRect (sAX : Int) (sAY : Int) (sBX : Int) (sBY : Int) (tAX : Int) (tAY : Int) (tBX : Int) (tBY : Int) : Cn Try.prog := ⟨_, _, _, _, _, l_eqRect sAX sAY sBX sBY tAX tAY tBX tBY⟩
theorem l_eqRectS (A : Int → Int) (B : Int → Int) (D : Int → Int) (F : Int → Int) (n : Int) (A2 : Int → Int) (B2 : Int → Int) (D2 : Int → Int) (F2 : Int → Int) (m : Int) : RunsTo Try.prog 38 [(.sl 0 4 (.lit 0) (.v fun _ => n) 1048576), (.sl 1 4 (.lit 0) (.v fun _ => m) 1048576)] [some ⟨57, 4, true, (.sym (.v fun _ => n) fun e => [(.int .i64 (.v fun _ => (A (e.den))) (-9223372036854775808) 9223372036854775807), (.int .i64 (.v fun _ => (B (e.den))) (-9223372036854775808) 9223372036854775807), (.int .i64 (.v fun _ => (D (e.den))) (-9223372036854775808) 9223372036854775807), (.int .i64 (.v fun _ => (F (e.den))) (-9223372036854775808) 9223372036854775807)])⟩, some ⟨57, 4, true, (.sym (.v fun _ => m) fun e => [(.int .i64 (.v fun _ => (A2 (e.den))) (-9223372036854775808) 9223372036854775807), (.int .i64 (.v fun _ => (B2 (e.den))) (-9223372036854775808) 9223372036854775807), (.int .i64 (.v fun _ => (D2 (e.den))) (-9223372036854775808) 9223372036854775807), (.int .i64 (.v fun _ => (F2 (e.den))) (-9223372036854775808) 9223372036854775807)])⟩] (.bool (.v fun _ => eqR A B D F n A2 B2 D2 F2 m)) [some ⟨57, 4, true, (.sym (.v fun _ => n) fun e => [(.int .i64 (.v fun _ => (A (e.den))) (-9223372036854775808) 9223372036854775807), (.int .i64 (.v fun _ => (B (e.den))) (-9223372036854775808) 9223372036854775807), (.int .i64 (.v fun _ => (D (e.den))) (-9223372036854775808) 9223372036854775807), (.int .i64 (.v fun _ => (F (e.den))) (-9223372036854775808) 9223372036854775807)])⟩, some ⟨57, 4, true, (.sym (.v fun _ => m) fun e => [(.int .i64 (.v fun _ => (A2 (e.den))) (-9223372036854775808) 9223372036854775807), (.int .i64 (.v fun _ => (B2 (e.den))) (-9223372036854775808) 9223372036854775807), (.int .i64 (.v fun _ => (D2 (e.den))) (-9223372036854775808) 9223372036854775807), (.int .i64 (.v fun _ => (F2 (e.den))) (-9223372036854775808) 9223372036854775807)])⟩] := by
  refine RunsTo.go env Try.func38 rfl Try.call38 rfl rfl (fun _ _ => (.ite .ret (.loop [] [0, 1] (Int) (fun x3 => ⟨spl 27 0 [(0, (.sl 0 4 (.lit 0) (.v fun _ => n) 1048576)), (1, (.sl 1 4 (.lit 0) (.v fun _ => m) 1048576)), (5, (.int .i64 (.v fun _ => x3) 0 1048576))], [some ⟨57, 4, true, (.sym (.v fun _ => n) fun e => [(.int .i64 (.v fun _ => (A (e.den))) (-9223372036854775808) 9223372036854775807), (.int .i64 (.v fun _ => (B (e.den))) (-9223372036854775808) 9223372036854775807), (.int .i64 (.v fun _ => (D (e.den))) (-9223372036854775808) 9223372036854775807), (.int .i64 (.v fun _ => (F (e.den))) (-9223372036854775808) 9223372036854775807)])⟩, some ⟨57, 4, true, (.sym (.v fun _ => m) fun e => [(.int .i64 (.v fun _ => (A2 (e.den))) (-9223372036854775808) 9223372036854775807), (.int .i64 (.v fun _ => (B2 (e.den))) (-9223372036854775808) 9223372036854775807), (.int .i64 (.v fun _ => (D2 (e.den))) (-9223372036854775808) 9223372036854775807), (.int .i64 (.v fun _ => (F2 (e.den))) (-9223372036854775808) 9223372036854775807)])⟩], 2⟩) (fun x3 => (0 ≤ x3 ∧ x3 ≤ n) ∧ ∀ i, 0 ≤ i → i < x3 → ((decide ((A (i)) = (A2 (i))) && decide ((B (i)) = (B2 (i)))) && (decide ((D (i)) = (D2 (i))) && decide ((F (i)) = (F2 (i))))) = true) (fun x3 => (n - x3).toNat) fun x3 => (.ite (.need (.need (.need (.need (.call (c_l_eqRect ((A (x3))) ((B (x3))) ((D (x3))) ((F (x3))) ((A2 (x3))) ((B2 (x3))) ((D2 (x3))) ((F2 (x3)))) (.ite (.out .ret) (.next [0, 1]))))))) (.out .ret))))) (G := ((0 ≤ n ∧ n ≤ 1048576) ∧ (0 ≤ m ∧ m ≤ 1048576)) → ((∀ e15 : E, ((0 ≤ e15.den ∧ e15.den < n) → (((-9223372036854775808) ≤ ((A (e15.den))) ∧ ((A (e15.den))) ≤ 9223372036854775807) ∧ (((-9223372036854775808) ≤ ((B (e15.den))) ∧ ((B (e15.den))) ≤ 9223372036854775807) ∧ (((-9223372036854775808) ≤ ((D (e15.den))) ∧ ((D (e15.den))) ≤ 9223372036854775807) ∧ ((-9223372036854775808) ≤ ((F (e15.den))) ∧ ((F (e15.den))) ≤ 9223372036854775807)))))) ∧ (∀ e14 : E, ((0 ≤ e14.den ∧ e14.den < m) → (((-9223372036854775808) ≤ ((A2 (e14.den))) ∧ ((A2 (e14.den))) ≤ 9223372036854775807) ∧ (((-9223372036854775808) ≤ ((B2 (e14.den))) ∧ ((B2 (e14.den))) ≤ 9223372036854775807) ∧ (((-9223372036854775808) ≤ ((D2 (e14.den))) ∧ ((D2 (e14.den))) ≤ 9223372036854775807) ∧ ((-9223372036854775808) ≤ ((F2 (e14.den))) ∧ ((F2 (e14.den))) ≤ 9223372036854775807))))))) → (((n ≠ m) → (((eqR A B D F n A2 B2 D2 F2 m) = false) ∧ (((n ≤ n) ∧ (∀ e2 : E, ((0 ≤ e2.den ∧ e2.den < n) → ((((A (e2.den))) = ((A (e2.den)))) ∧ ((((B (e2.den))) = ((B (e2.den)))) ∧ ((((D (e2.den))) = ((D (e2.den)))) ∧ (((F (e2.den))) = ((F (e2.den)))))))))) ∧ ((m ≤ m) ∧ (∀ e1 : E, ((0 ≤ e1.den ∧ e1.den < m) → ((((A2 (e1.den))) = ((A2 (e1.den)))) ∧ ((((B2 (e1.den))) = ((B2 (e1.den)))) ∧ ((((D2 (e1.den))) = ((D2 (e1.den)))) ∧ (((F2 (e1.den))) = ((F2 (e1.den))))))))))))) ∧ ((n = m) → ((∃ y4 : Int, (((0 ≤ y4 ∧ y4 ≤ n) ∧ ∀ i, 0 ≤ i → i < y4 → ((decide ((A (i)) = (A2 (i))) && decide ((B (i)) = (B2 (i)))) && (decide ((D (i)) = (D2 (i))) && decide ((F (i)) = (F2 (i))))) = true) ∧ (((n = n) ∧ ((m = m) ∧ ((0 : Int) = y4))) ∧ (((n ≤ n) ∧ (∀ e6 : E, ((0 ≤ e6.den ∧ e6.den < n) → ((((A (e6.den))) = ((A (e6.den)))) ∧ ((((B (e6.den))) = ((B (e6.den)))) ∧ ((((D (e6.den))) = ((D (e6.den)))) ∧ (((F (e6.den))) = ((F (e6.den)))))))))) ∧ ((m ≤ m) ∧ (∀ e5 : E, ((0 ≤ e5.den ∧ e5.den < m) → ((((A2 (e5.den))) = ((A2 (e5.den)))) ∧ ((((B2 (e5.den))) = ((B2 (e5.den)))) ∧ ((((D2 (e5.den))) = ((D2 (e5.den)))) ∧ (((F2 (e5.den))) = ((F2 (e5.den)))))))))))))) ∧ (∀ x3 : Int, (((0 ≤ x3 ∧ x3 ≤ n) ∧ ∀ i, 0 ≤ i → i < x3 → ((decide ((A (i)) = (A2 (i))) && decide ((B (i)) = (B2 (i)))) && (decide ((D (i)) = (D2 (i))) && decide ((F (i)) = (F2 (i))))) = true) → (((x3 < n) → ((((0 ≤ x3) ∧ (x3 < n))) ∧ ((x3 < n) ∧ ((((0 ≤ x3) ∧ (x3 < m))) ∧ ((x3 < m) ∧ ((((((A (x3))) = ((A (x3)))) ∧ ((((B (x3))) = ((B (x3)))) ∧ ((((D (x3))) = ((D (x3)))) ∧ (((F (x3))) = ((F (x3))))))) ∧ ((((A2 (x3))) = ((A2 (x3)))) ∧ ((((B2 (x3))) = ((B2 (x3)))) ∧ ((((D2 (x3))) = ((D2 (x3)))) ∧ (((F2 (x3))) = ((F2 (x3)))))))) ∧ (((((decide (((A (x3))) = ((A2 (x3)))) && decide (((B (x3))) = ((B2 (x3))))) && (decide (((D (x3))) = ((D2 (x3)))) && decide (((F (x3))) = ((F2 (x3)))))) = false) → (((eqR A B D F n A2 B2 D2 F2 m) = false) ∧ (((n ≤ n) ∧ (∀ e8 : E, ((0 ≤ e8.den ∧ e8.den < n) → ((((A (e8.den))) = ((A (e8.den)))) ∧ ((((B (e8.den))) = ((B (e8.den)))) ∧ ((((D (e8.den))) = ((D (e8.den)))) ∧ (((F (e8.den))) = ((F (e8.den)))))))))) ∧ ((m ≤ m) ∧ (∀ e7 : E, ((0 ≤ e7.den ∧ e7.den < m) → ((((A2 (e7.den))) = ((A2 (e7.den)))) ∧ ((((B2 (e7.den))) = ((B2 (e7.den)))) ∧ ((((D2 (e7.den))) = ((D2 (e7.den)))) ∧ (((F2 (e7.den))) = ((F2 (e7.den))))))))))))) ∧ ((((decide (((A (x3))) = ((A2 (x3)))) && decide (((B (x3))) = ((B2 (x3))))) && (decide (((D (x3))) = ((D2 (x3)))) && decide (((F (x3))) = ((F2 (x3)))))) = true) → (∃ y9 : Int, (((0 ≤ y9 ∧ y9 ≤ n) ∧ ∀ i, 0 ≤ i → i < y9 → ((decide ((A (i)) = (A2 (i))) && decide ((B (i)) = (B2 (i)))) && (decide ((D (i)) = (D2 (i))) && decide ((F (i)) = (F2 (i))))) = true) ∧ ((((n = n) ∧ ((m = m) ∧ (((x3 + 1) = y9) ∧ ((1 ≤ (x3 + 1) ∧ (x3 + 1) ≤ 1048577) → (0 ≤ y9 ∧ y9 ≤ 1048576))))) ∧ (((n ≤ n) ∧ (∀ e11 : E, ((0 ≤ e11.den ∧ e11.den < n) → ((((A (e11.den))) = ((A (e11.den)))) ∧ ((((B (e11.den))) = ((B (e11.den)))) ∧ ((((D (e11.den))) = ((D (e11.den)))) ∧ (((F (e11.den))) = ((F (e11.den)))))))))) ∧ ((m ≤ m) ∧ (∀ e10 : E, ((0 ≤ e10.den ∧ e10.den < m) → ((((A2 (e10.den))) = ((A2 (e10.den)))) ∧ ((((B2 (e10.den))) = ((B2 (e10.den)))) ∧ ((((D2 (e10.den))) = ((D2 (e10.den)))) ∧ (((F2 (e10.den))) = ((F2 (e10.den)))))))))))) ∧ ((n - y9).toNat < (n - x3).toNat)))))))))))) ∧ ((n ≤ x3) → (((eqR A B D F n A2 B2 D2 F2 m) = true) ∧ (((n ≤ n) ∧ (∀ e13 : E, ((0 ≤ e13.den ∧ e13.den < n) → ((((A (e13.den))) = ((A (e13.den)))) ∧ ((((B (e13.den))) = ((B (e13.den)))) ∧ ((((D (e13.den))) = ((D (e13.den)))) ∧ (((F (e13.den))) = ((F (e13.den)))))))))) ∧ ((m ≤ m) ∧ (∀ e12 : E, ((0 ≤ e12.den ∧ e12.den < m) → ((((A2 (e12.den))) = ((A2 (e12.den)))) ∧ ((((B2 (e12.den))) = ((B2 (e12.den)))) ∧ ((((D2 (e12.den))) = ((D2 (e12.den)))) ∧ (((F2 (e12.den))) = ((F2 (e12.den)))))))))))))))))))) (by kernel_rfl) ?_
  intro h1 h2
  refine ⟨?_, ?_⟩
  · intro c16
    refine ⟨?_, ⟨Int.le_refl _, fun _ => fun _ => ⟨rfl, ⟨rfl, ⟨rfl, rfl⟩⟩⟩⟩, Int.le_refl _, fun _ => fun _ => ⟨rfl, ⟨rfl, ⟨rfl, rfl⟩⟩⟩⟩
    -- 1: (eqR A B D F n A2 B2 D2 F2 m) = false
    first | rfl | omega | (refine ⟨by omega, fun i a b => ?_⟩; first | (exfalso; omega) | (by_cases e : i = j; (subst e; assumption); exact I1.2 i a (by omega))) | (simp only [eqR]; rw [allB_false (q := fun i => (decide (A i = A2 i) && decide (B i = B2 i)) && (decide (D i = D2 i) && decide (F i = F2 i))) I1.1.1 (by omega) (by assumption)]; simp; done) | (simp only [eqR]; rw [allB_iff.2 fun i a b => I1.2 i a (by omega)]; simp; omega) | (simp [eqR]; omega) | fail
  · intro c17
    refine ⟨?_, ?_⟩
    · refine ⟨0, ?_⟩
      try dsimp only
      refine ⟨?_, ?_, ⟨Int.le_refl _, fun _ => fun _ => ⟨rfl, ⟨rfl, ⟨rfl, rfl⟩⟩⟩⟩, Int.le_refl _, fun _ => fun _ => ⟨rfl, ⟨rfl, ⟨rfl, rfl⟩⟩⟩⟩
        -- 2: (0 ≤ y4 ∧ y4 ≤ n) ∧ ∀ i, 0 ≤ i → i < y4 → ((decide ((A (i)) = (A2 (i))) && decide ((B (i)) = (B2 (i)
      · first | rfl | omega | (refine ⟨by omega, fun i a b => ?_⟩; first | (exfalso; omega) | (by_cases e : i = j; (subst e; assumption); exact I1.2 i a (by omega))) | (simp only [eqR]; rw [allB_false (q := fun i => (decide (A i = A2 i) && decide (B i = B2 i)) && (decide (D i = D2 i) && decide (F i = F2 i))) I1.1.1 (by omega) (by assumption)]; simp; done) | (simp only [eqR]; rw [allB_iff.2 fun i a b => I1.2 i a (by omega)]; simp; omega) | (simp [eqR]; omega) | fail
      · refine ⟨rfl, rfl, ?_⟩
        -- 3: (0 : Int) = y4
        first | rfl | omega | (refine ⟨by omega, fun i a b => ?_⟩; first | (exfalso; omega) | (by_cases e : i = j; (subst e; assumption); exact I1.2 i a (by omega))) | (simp only [eqR]; rw [allB_false (q := fun i => (decide (A i = A2 i) && decide (B i = B2 i)) && (decide (D i = D2 i) && decide (F i = F2 i))) I1.1.1 (by omega) (by assumption)]; simp; done) | (simp only [eqR]; rw [allB_iff.2 fun i a b => I1.2 i a (by omega)]; simp; omega) | (simp [eqR]; omega) | fail
    · intro j
      intro I1
      refine ⟨?_, ?_⟩
      · intro c18
        refine ⟨?_, ?_, ?_, ?_, ⟨⟨rfl, ⟨rfl, ⟨rfl, rfl⟩⟩⟩, ⟨rfl, ⟨rfl, ⟨rfl, rfl⟩⟩⟩⟩, ?_, ?_⟩
          -- 4: ((0 ≤ x3) ∧ (x3 < n))
        · first | rfl | omega | (refine ⟨by omega, fun i a b => ?_⟩; first | (exfalso; omega) | (by_cases e : i = j; (subst e; assumption); exact I1.2 i a (by omega))) | (simp only [eqR]; rw [allB_false (q := fun i => (decide (A i = A2 i) && decide (B i = B2 i)) && (decide (D i = D2 i) && decide (F i = F2 i))) I1.1.1 (by omega) (by assumption)]; simp; done) | (simp only [eqR]; rw [allB_iff.2 fun i a b => I1.2 i a (by omega)]; simp; omega) | (simp [eqR]; omega) | fail
          -- 5: x3 < n
        · first | rfl | omega | (refine ⟨by omega, fun i a b => ?_⟩; first | (exfalso; omega) | (by_cases e : i = j; (subst e; assumption); exact I1.2 i a (by omega))) | (simp only [eqR]; rw [allB_false (q := fun i => (decide (A i = A2 i) && decide (B i = B2 i)) && (decide (D i = D2 i) && decide (F i = F2 i))) I1.1.1 (by omega) (by assumption)]; simp; done) | (simp only [eqR]; rw [allB_iff.2 fun i a b => I1.2 i a (by omega)]; simp; omega) | (simp [eqR]; omega) | fail
          -- 6: ((0 ≤ x3) ∧ (x3 < m))
        · first | rfl | omega | (refine ⟨by omega, fun i a b => ?_⟩; first | (exfalso; omega) | (by_cases e : i = j; (subst e; assumption); exact I1.2 i a (by omega))) | (simp only [eqR]; rw [allB_false (q := fun i => (decide (A i = A2 i) && decide (B i = B2 i)) && (decide (D i = D2 i) && decide (F i = F2 i))) I1.1.1 (by omega) (by assumption)]; simp; done) | (simp only [eqR]; rw [allB_iff.2 fun i a b => I1.2 i a (by omega)]; simp; omega) | (simp [eqR]; omega) | fail
          -- 7: x3 < m
        · first | rfl | omega | (refine ⟨by omega, fun i a b => ?_⟩; first | (exfalso; omega) | (by_cases e : i = j; (subst e; assumption); exact I1.2 i a (by omega))) | (simp only [eqR]; rw [allB_false (q := fun i => (decide (A i = A2 i) && decide (B i = B2 i)) && (decide (D i = D2 i) && decide (F i = F2 i))) I1.1.1 (by omega) (by assumption)]; simp; done) | (simp only [eqR]; rw [allB_iff.2 fun i a b => I1.2 i a (by omega)]; simp; omega) | (simp [eqR]; omega) | fail
        · intro c19
          refine ⟨?_, ⟨Int.le_refl _, fun _ => fun _ => ⟨rfl, ⟨rfl, ⟨rfl, rfl⟩⟩⟩⟩, Int.le_refl _, fun _ => fun _ => ⟨rfl, ⟨rfl, ⟨rfl, rfl⟩⟩⟩⟩
          -- 8: (eqR A B D F n A2 B2 D2 F2 m) = false
          first | rfl | omega | (refine ⟨by omega, fun i a b => ?_⟩; first | (exfalso; omega) | (by_cases e : i = j; (subst e; assumption); exact I1.2 i a (by omega))) | (simp only [eqR]; rw [allB_false (q := fun i => (decide (A i = A2 i) && decide (B i = B2 i)) && (decide (D i = D2 i) && decide (F i = F2 i))) I1.1.1 (by omega) (by assumption)]; simp; done) | (simp only [eqR]; rw [allB_iff.2 fun i a b => I1.2 i a (by omega)]; simp; omega) | (simp [eqR]; omega) | fail
        · intro c20
          refine ⟨j + 1, ?_⟩
          try dsimp only
          refine ⟨?_, ?_, ?_⟩
            -- 9: (0 ≤ y9 ∧ y9 ≤ n) ∧ ∀ i, 0 ≤ i → i < y9 → ((decide ((A (i)) = (A2 (i))) && decide ((B (i)) = (B2 (i)
          · first | rfl | omega | (refine ⟨by omega, fun i a b => ?_⟩; first | (exfalso; omega) | (by_cases e : i = j; (subst e; assumption); exact I1.2 i a (by omega))) | (simp only [eqR]; rw [allB_false (q := fun i => (decide (A i = A2 i) && decide (B i = B2 i)) && (decide (D i = D2 i) && decide (F i = F2 i))) I1.1.1 (by omega) (by assumption)]; simp; done) | (simp only [eqR]; rw [allB_iff.2 fun i a b => I1.2 i a (by omega)]; simp; omega) | (simp [eqR]; omega) | fail
          · refine ⟨?_, ⟨Int.le_refl _, fun _ => fun _ => ⟨rfl, ⟨rfl, ⟨rfl, rfl⟩⟩⟩⟩, Int.le_refl _, fun _ => fun _ => ⟨rfl, ⟨rfl, ⟨rfl, rfl⟩⟩⟩⟩
            refine ⟨rfl, rfl, ?_, ?_⟩
              -- 10: (x3 + 1) = y9
            · first | rfl | omega | (refine ⟨by omega, fun i a b => ?_⟩; first | (exfalso; omega) | (by_cases e : i = j; (subst e; assumption); exact I1.2 i a (by omega))) | (simp only [eqR]; rw [allB_false (q := fun i => (decide (A i = A2 i) && decide (B i = B2 i)) && (decide (D i = D2 i) && decide (F i = F2 i))) I1.1.1 (by omega) (by assumption)]; simp; done) | (simp only [eqR]; rw [allB_iff.2 fun i a b => I1.2 i a (by omega)]; simp; omega) | (simp [eqR]; omega) | fail
            · intro c21
              -- 11: 0 ≤ y9 ∧ y9 ≤ 1048576
              first | rfl | omega | (refine ⟨by omega, fun i a b => ?_⟩; first | (exfalso; omega) | (by_cases e : i = j; (subst e; assumption); exact I1.2 i a (by omega))) | (simp only [eqR]; rw [allB_false (q := fun i => (decide (A i = A2 i) && decide (B i = B2 i)) && (decide (D i = D2 i) && decide (F i = F2 i))) I1.1.1 (by omega) (by assumption)]; simp; done) | (simp only [eqR]; rw [allB_iff.2 fun i a b => I1.2 i a (by omega)]; simp; omega) | (simp [eqR]; omega) | fail
            -- 12: (n - y9).toNat < (n - x3).toNat
          · first | rfl | omega | (refine ⟨by omega, fun i a b => ?_⟩; first | (exfalso; omega) | (by_cases e : i = j; (subst e; assumption); exact I1.2 i a (by omega))) | (simp only [eqR]; rw [allB_false (q := fun i => (decide (A i = A2 i) && decide (B i = B2 i)) && (decide (D i = D2 i) && decide (F i = F2 i))) I1.1.1 (by omega) (by assumption)]; simp; done) | (simp only [eqR]; rw [allB_iff.2 fun i a b => I1.2 i a (by omega)]; simp; omega) | (simp [eqR]; omega) | fail
      · intro c22
        refine ⟨?_, ⟨Int.le_refl _, fun _ => fun _ => ⟨rfl, ⟨rfl, ⟨rfl, rfl⟩⟩⟩⟩, Int.le_refl _, fun _ => fun _ => ⟨rfl, ⟨rfl, ⟨rfl, rfl⟩⟩⟩⟩
        -- 13: (eqR A B D F n A2 B2 D2 F2 m) = true
        first | rfl | omega | (refine ⟨by omega, fun i a b => ?_⟩; first | (exfalso; omega) | (by_cases e : i = j; (subst e; assumption); exact I1.2 i a (by omega))) | (simp only [eqR]; rw [allB_false (q := fun i => (decide (A i = A2 i) && decide (B i = B2 i)) && (decide (D i = D2 i) && decide (F i = F2 i))) I1.1.1 (by omega) (by assumption)]; simp; done) | (simp only [eqR]; rw [allB_iff.2 fun i a b => I1.2 i a (by omega)]; simp; omega) | (simp [eqR]; omega) | fail
def c_l_eqRectS (A : Int → Int) (B : Int → Int) (D : Int → Int) (F : Int → Int) (n : Int) (A2 : Int → Int) (B2 : Int → Int) (D2 : Int → Int) (F2 : Int → Int) (m : Int) : Cn Try.prog := ⟨_, _, _, _, _, l_eqRectS A B D F n A2 B2 D2 F2 m⟩
end Go.Proofs.Ytpnjopppclmfkaa
