/- Lists of rectangles drawn. -/
import Derived.Test.YtpnjopppclmfkaaR6
set_option linter.unusedSimpArgs false
set_option linter.unusedVariables false
set_option maxRecDepth 100000
namespace Go.Proofs.Ytpnjopppclmfkaa
open Go.Sym
def rsM (C : Int → Int) (n p : Int) : Int := selL [0, 1, 2, 3, 4, 5, 13] (pk C n p 7)
def rsE (C : Int → Int) (n p : Int) : Int := p + 1 + 4 * rsM C n p
def rsQ (C : Int → Int) (n p i : Int) : Int := p + 1 + 4 * i
def rsZ (C : Int → Int) (n p : Int) : Bool := decide (0 < rsM C n p) && decide (pk C n (rsE C n p) 8 = 0)
def rsA (C : Int → Int) (n p i : Int) : Int := if rsZ C n p = true ∧ i = 0 then rpX C n (rsE C n p + 1) else rpX C n (rsQ C n p i)
def rsB (C : Int → Int) (n p i : Int) : Int := if rsZ C n p = true ∧ i = 0 then arLY C n (rsE C n p + 1) else rpY C n (rsQ C n p i)
def rsD (C : Int → Int) (n p i : Int) : Int := if rsZ C n p = true ∧ i = 0 then arHX C n (rsE C n p + 1) else rrHX C n (rsQ C n p i)
def rsF (C : Int → Int) (n p i : Int) : Int := if rsZ C n p = true ∧ i = 0 then rrHY C n (rsE C n p + 1) else rrHY C n (rsQ C n p i)
def rsP (C : Int → Int) (n p : Int) : Int := if 0 < rsM C n p then (if rsZ C n p = true then arP C n (rsE C n p + 1) else rsE C n p + 1) else rsE C n p
theorem arP_bd (C : Int → Int) (n p : Int) : p ≤ arP C n p ∧ arP C n p ≤ p + 6 := by unfold arP; split <;> (try split) <;> omega
theorem rsZ_1 {C : Int → Int} {n p j : Int} (h : j = rsM C n p) (h1 : 0 < j) (h2 : pk C n (p + 1 + 4 * j) 8 = 0) : rsZ C n p = true := by
  subst h
  unfold rsZ rsE
  rw [decide_eq_true h1, decide_eq_true h2]; rfl
theorem rsZ_2 {C : Int → Int} {n p j : Int} (h : j = rsM C n p) (h2 : pk C n (p + 1 + 4 * j) 8 ≠ 0) : rsZ C n p = false := by
  subst h
  unfold rsZ rsE
  rw [decide_eq_false h2, Bool.and_false]
theorem rsZ_3 {C : Int → Int} {n p j : Int} (h : j = rsM C n p) (h2 : j ≤ 0) : rsZ C n p = false := by
  subst h
  unfold rsZ
  rw [decide_eq_false (by omega), Bool.false_and]
theorem rs_0 {C : Int → Int} {n p i : Int} (hz : rsZ C n p = true) (hi : i = 0) : rsA C n p i = rpX C n (rsE C n p + 1) ∧ rsB C n p i = arLY C n (rsE C n p + 1) ∧ rsD C n p i = arHX C n (rsE C n p + 1) ∧ rsF C n p i = rrHY C n (rsE C n p + 1) := by
  unfold rsA rsB rsD rsF
  rw [if_pos ⟨hz, hi⟩, if_pos ⟨hz, hi⟩, if_pos ⟨hz, hi⟩, if_pos ⟨hz, hi⟩]
  exact ⟨rfl, rfl, rfl, rfl⟩
theorem rs_i {C : Int → Int} {n p i : Int} (hz : rsZ C n p = false ∨ i ≠ 0) : rsA C n p i = rpX C n (p + 1 + 4 * i) ∧ rsB C n p i = rpY C n (p + 1 + 4 * i) ∧ rsD C n p i = rrHX C n (p + 1 + 4 * i) ∧ rsF C n p i = rrHY C n (p + 1 + 4 * i) := by
  have h : ¬ (rsZ C n p = true ∧ i = 0) := by
    rintro ⟨a, b⟩
    rcases hz with h | h
    · rw [h] at a; cases a
    · exact h b
  unfold rsA rsB rsD rsF
  rw [if_neg h, if_neg h, if_neg h, if_neg h]
  exact ⟨rfl, rfl, rfl, rfl⟩
theorem rsP_1 {C : Int → Int} {n p j : Int} (h : j = rsM C n p) (h1 : 0 < j) (hz : rsZ C n p = true) : rsP C n p = arP C n (p + 1 + 4 * j + 1) := by
  subst h
  unfold rsP
  rw [if_pos h1, if_pos hz]; rfl
theorem rsP_2 {C : Int → Int} {n p j : Int} (h : j = rsM C n p) (h1 : 0 < j) (hz : rsZ C n p = false) : rsP C n p = p + 1 + 4 * j + 1 := by
  subst h
  unfold rsP
  rw [if_pos h1, if_neg (by rw [hz]; decide)]; rfl
theorem rsP_3 {C : Int → Int} {n p j : Int} (h : j = rsM C n p) (h1 : j ≤ 0) : rsP C n p = p + 1 + 4 * j := by
  subst h
  unfold rsP
  rw [if_neg (by omega)]; rfl
theorem one_7 (C : Int → Int) (n : Int) (p : Int) (L : Int → Int) : RunsTo Try.prog 79 [(.ptr 0 2 (.lit 0) 0), (.sl 1 1 (.lit 0) (.lit 7) 7)] [some ⟨110, 2, true, (.lit [[(.sl 2 1 (.lit 0) (.v fun _ => n) 2000), (.int .i64 (.v fun _ => p) 0 9999990)]])⟩, some ⟨3, 1, true, (.sym (.lit 7) fun e => [(.int .i64 (.v fun _ => (L (e.den))) 0 13)])⟩, some ⟨5, 1, false, (.sym (.v fun _ => n) fun e => [(.int .u8 (.v fun _ => (C (e.den))) 0 255)])⟩] (.int .i64 (.v fun _ => (L (pk C n p 7))) 0 13) [some ⟨110, 2, true, (.lit [[(.sl 2 1 (.lit 0) (.v fun _ => n) 2000), (.int .i64 (.v fun _ => p + 1) 0 9999991)]])⟩, some ⟨3, 1, true, (.sym (.lit 7) fun e => [(.int .i64 (.v fun _ => (L (e.den))) 0 13)])⟩, some ⟨5, 1, false, (.sym (.v fun _ => n) fun e => [(.int .u8 (.v fun _ => (C (e.den))) 0 255)])⟩] := by
  refine RunsTo.go env Try.func79 rfl Try.call79 rfl rfl (fun _ _ => (.callF (c_pick_7 C n p) (.need (.need .ret)))) (G := (True) → (((0 ≤ n ∧ n ≤ 2000) ∧ (0 ≤ p ∧ p ≤ 9999990)) ∧ ((∀ e5 : E, ((0 ≤ e5.den ∧ e5.den < 7) → (0 ≤ ((L (e5.den))) ∧ ((L (e5.den))) ≤ 13))) ∧ (∀ e4 : E, ((0 ≤ e4.den ∧ e4.den < n) → (0 ≤ ((C (e4.den))) ∧ ((C (e4.den))) ≤ 255))))) → (((0 ≤ (7 : Int) ∧ (7 : Int) ≤ 7) → (7 ≤ (7 : Int) ∧ (7 : Int) ≤ 7)) ∧ ((((n = n) ∧ (p = p)) ∧ ((n ≤ n) ∧ (∀ e1 : E, ((0 ≤ e1.den ∧ e1.den < n) → (((C (e1.den))) = ((C (e1.den)))))))) ∧ ((0 ≤ (pk C n p 7) ∧ (pk C n p 7) ≤ 6) → ((((0 ≤ (pk C n p 7)) ∧ ((pk C n p 7) < 7))) ∧ (((pk C n p 7) < 7) ∧ ((((L (pk C n p 7))) = ((L (pk C n p 7)))) ∧ (((n = n) ∧ (((p + 1) = (p + 1)) ∧ ((0 ≤ (p + 1) ∧ (p + 1) ≤ 10000001) → (0 ≤ (p + 1) ∧ (p + 1) ≤ 9999991)))) ∧ ((((7 : Int) ≤ 7) ∧ (∀ e3 : E, ((0 ≤ e3.den ∧ e3.den < 7) → (((L (e3.den))) = ((L (e3.den))))))) ∧ ((n ≤ n) ∧ (∀ e2 : E, ((0 ≤ e2.den ∧ e2.den < n) → (((C (e2.den))) = ((C (e2.den)))))))))))))))) (by kernel_rfl) ?_
  intro h1 h2
  refine ⟨?_, ⟨⟨rfl, rfl⟩, ⟨Int.le_refl _, fun _ => fun _ => rfl⟩⟩, ?_⟩
  · intro c6
    omega
  · intro c7
    refine ⟨?_, ?_, rfl, ?_, ⟨Int.le_refl _, fun _ => fun _ => rfl⟩, Int.le_refl _, fun _ => fun _ => rfl⟩
    · omega
    · omega
    · refine ⟨rfl, rfl, ?_⟩
      intro c8
      omega
def c_one_7 (C : Int → Int) (n : Int) (p : Int) (L : Int → Int) : Cn Try.prog := ⟨_, _, _, _, _, one_7 C n p L⟩
theorem one_5 (C : Int → Int) (n : Int) (p : Int) (L : Int → Int) : RunsTo Try.prog 79 [(.ptr 0 2 (.lit 0) 0), (.sl 1 1 (.lit 0) (.lit 5) 5)] [some ⟨110, 2, true, (.lit [[(.sl 2 1 (.lit 0) (.v fun _ => n) 2000), (.int .i64 (.v fun _ => p) 0 9999990)]])⟩, some ⟨3, 1, true, (.sym (.lit 5) fun e => [(.int .i64 (.v fun _ => (L (e.den))) 0 3)])⟩, some ⟨5, 1, false, (.sym (.v fun _ => n) fun e => [(.int .u8 (.v fun _ => (C (e.den))) 0 255)])⟩] (.int .i64 (.v fun _ => (L (pk C n p 5))) 0 3) [some ⟨110, 2, true, (.lit [[(.sl 2 1 (.lit 0) (.v fun _ => n) 2000), (.int .i64 (.v fun _ => p + 1) 0 9999991)]])⟩, some ⟨3, 1, true, (.sym (.lit 5) fun e => [(.int .i64 (.v fun _ => (L (e.den))) 0 3)])⟩, some ⟨5, 1, false, (.sym (.v fun _ => n) fun e => [(.int .u8 (.v fun _ => (C (e.den))) 0 255)])⟩] := by
  refine RunsTo.go env Try.func79 rfl Try.call79 rfl rfl (fun _ _ => (.callF (c_pick_5 C n p) (.need (.need .ret)))) (G := (True) → (((0 ≤ n ∧ n ≤ 2000) ∧ (0 ≤ p ∧ p ≤ 9999990)) ∧ ((∀ e5 : E, ((0 ≤ e5.den ∧ e5.den < 5) → (0 ≤ ((L (e5.den))) ∧ ((L (e5.den))) ≤ 3))) ∧ (∀ e4 : E, ((0 ≤ e4.den ∧ e4.den < n) → (0 ≤ ((C (e4.den))) ∧ ((C (e4.den))) ≤ 255))))) → (((0 ≤ (5 : Int) ∧ (5 : Int) ≤ 5) → (5 ≤ (5 : Int) ∧ (5 : Int) ≤ 5)) ∧ ((((n = n) ∧ (p = p)) ∧ ((n ≤ n) ∧ (∀ e1 : E, ((0 ≤ e1.den ∧ e1.den < n) → (((C (e1.den))) = ((C (e1.den)))))))) ∧ ((0 ≤ (pk C n p 5) ∧ (pk C n p 5) ≤ 4) → ((((0 ≤ (pk C n p 5)) ∧ ((pk C n p 5) < 5))) ∧ (((pk C n p 5) < 5) ∧ ((((L (pk C n p 5))) = ((L (pk C n p 5)))) ∧ (((n = n) ∧ (((p + 1) = (p + 1)) ∧ ((0 ≤ (p + 1) ∧ (p + 1) ≤ 10000001) → (0 ≤ (p + 1) ∧ (p + 1) ≤ 9999991)))) ∧ ((((5 : Int) ≤ 5) ∧ (∀ e3 : E, ((0 ≤ e3.den ∧ e3.den < 5) → (((L (e3.den))) = ((L (e3.den))))))) ∧ ((n ≤ n) ∧ (∀ e2 : E, ((0 ≤ e2.den ∧ e2.den < n) → (((C (e2.den))) = ((C (e2.den)))))))))))))))) (by kernel_rfl) ?_
  intro h1 h2
  refine ⟨?_, ⟨⟨rfl, rfl⟩, ⟨Int.le_refl _, fun _ => fun _ => rfl⟩⟩, ?_⟩
  · intro c6
    omega
  · intro c7
    refine ⟨?_, ?_, rfl, ?_, ⟨Int.le_refl _, fun _ => fun _ => rfl⟩, Int.le_refl _, fun _ => fun _ => rfl⟩
    · omega
    · omega
    · refine ⟨rfl, rfl, ?_⟩
      intro c8
      omega
def c_one_5 (C : Int → Int) (n : Int) (p : Int) (L : Int → Int) : Cn Try.prog := ⟨_, _, _, _, _, one_5 C n p L⟩
theorem anyRects (C : Int → Int) (n : Int) (p : Int) : RunsTo Try.prog 78 [(.ptr 0 2 (.lit 0) 0)] [some ⟨110, 2, true, (.lit [[(.sl 1 1 (.lit 0) (.v fun _ => n) 2000), (.int .i64 (.v fun _ => p) 0 9990000)]])⟩, some ⟨5, 1, false, (.sym (.v fun _ => n) fun e => [(.int .u8 (.v fun _ => (C (e.den))) 0 255)])⟩] (.sl 2 4 (.lit 0) (.v fun _ => rsM C n p) 13) [some ⟨110, 2, true, (.lit [[(.sl 1 1 (.lit 0) (.v fun _ => n) 2000), (.int .i64 (.v fun _ => rsP C n p) 0 9999000)]])⟩, some ⟨5, 1, false, (.sym (.v fun _ => n) fun e => [(.int .u8 (.v fun _ => (C (e.den))) 0 255)])⟩, some ⟨57, 4, true, (.sym (.v fun _ => rsM C n p) fun e => [(.int .i64 (.v fun _ => rsA C n p e.den) (-1001) 1001), (.int .i64 (.v fun _ => rsB C n p e.den) (-1001) 1001), (.int .i64 (.v fun _ => rsD C n p e.den) (-1001) 1001), (.int .i64 (.v fun _ => rsF C n p e.den) (-1001) 1001)])⟩] := by
  refine RunsTo.go env Try.func78 rfl Try.call78 rfl rfl (fun _ _ => (.callF (c_one_7 C n p (selL [0, 1, 2, 3, 4, 5, 13])) (.loop [] [0, 1, 2] (Int) (fun x9 => ⟨spl 31 0 [(0, (.ptr 0 2 (.lit 0) 0)), (2, (.raw (.slice none 0 0))), (3, (.sl 2 4 (.lit 0) (.v fun _ => x9) 13)), (4, (.int .i64 (.v fun _ => rsM C n p - x9) 0 13))], [some ⟨110, 2, true, (.lit [[(.sl 1 1 (.lit 0) (.v fun _ => n) 2000), (.int .i64 (.v fun _ => p + 1 + 4 * x9) 0 9999200)]])⟩, some ⟨5, 1, false, (.sym (.v fun _ => n) fun e => [(.int .u8 (.v fun _ => ((C (e.den)))) 0 255)])⟩, some ⟨57, 4, true, (.sym (.v fun _ => x9) fun e => [(.int .i64 (.v fun _ => rpX C n (p + 1 + 4 * (e.den))) (-1001) 1001), (.int .i64 (.v fun _ => rpY C n (p + 1 + 4 * (e.den))) (-1001) 1001), (.int .i64 (.v fun _ => rrHX C n (p + 1 + 4 * (e.den))) (-1001) 1001), (.int .i64 (.v fun _ => rrHY C n (p + 1 + 4 * (e.den))) (-1001) 1001)])⟩], 2⟩) (fun x9 => 0 ≤ x9 ∧ x9 ≤ rsM C n p) (fun x9 => (rsM C n p - x9).toNat) fun x9 => (.ite (.callF (c_randomRect C n (p + 1 + 4 * x9)) (.need (.next [0, 1, 2]))) (.out (.ite (.callF (c_pick_8 C n (p + 1 + 4 * x9)) (.ite (.callF (c_anyRect C n ((p + 1 + 4 * x9) + 1)) (.need (.need .ret))) .ret)) .ret)))))) (G := (True) → (((0 ≤ n ∧ n ≤ 2000) ∧ (0 ≤ p ∧ p ≤ 9990000)) ∧ (∀ e26 : E, ((0 ≤ e26.den ∧ e26.den < n) → (0 ≤ ((C (e26.den))) ∧ ((C (e26.den))) ≤ 255)))) → ((((n = n) ∧ (p = p)) ∧ (((∀ e8 : E, ((e8.den = 0) → ((0 : Int) = (selL [0, 1, 2, 3, 4, 5, 13] (e8.den))))) ∧ ((∀ e7 : E, ((e7.den = 1) → ((1 : Int) = (selL [0, 1, 2, 3, 4, 5, 13] (e7.den))))) ∧ ((∀ e6 : E, ((e6.den = 2) → ((2 : Int) = (selL [0, 1, 2, 3, 4, 5, 13] (e6.den))))) ∧ ((∀ e5 : E, ((e5.den = 3) → ((3 : Int) = (selL [0, 1, 2, 3, 4, 5, 13] (e5.den))))) ∧ ((∀ e4 : E, ((e4.den = 4) → ((4 : Int) = (selL [0, 1, 2, 3, 4, 5, 13] (e4.den))))) ∧ ((∀ e3 : E, ((e3.den = 5) → ((5 : Int) = (selL [0, 1, 2, 3, 4, 5, 13] (e3.den))))) ∧ (∀ e2 : E, ((e2.den = 6) → ((13 : Int) = (selL [0, 1, 2, 3, 4, 5, 13] (e2.den))))))))))) ∧ ((n ≤ n) ∧ (∀ e1 : E, ((0 ≤ e1.den ∧ e1.den < n) → (((C (e1.den))) = ((C (e1.den))))))))) ∧ ((0 ≤ (selL [0, 1, 2, 3, 4, 5, 13] (pk C n p 7)) ∧ (selL [0, 1, 2, 3, 4, 5, 13] (pk C n p 7)) ≤ 13) → ((∃ y10 : Int, ((0 ≤ y10 ∧ y10 ≤ rsM C n p) ∧ (((((.slice none 0 0) : Value) = (.slice none 0 0)) ∧ (((0 : Int) = y10) ∧ ((selL [0, 1, 2, 3, 4, 5, 13] (pk C n p 7)) = (rsM C n p - y10)))) ∧ (((n = n) ∧ (((p + 1) = (p + 1 + 4 * y10)) ∧ ((0 ≤ (p + 1) ∧ (p + 1) ≤ 9999991) → (0 ≤ (p + 1 + 4 * y10) ∧ (p + 1 + 4 * y10) ≤ 9999200)))) ∧ (((n ≤ n) ∧ (∀ e11 : E, ((0 ≤ e11.den ∧ e11.den < n) → (((C (e11.den))) = ((C (e11.den))))))) ∧ (y10 = 0)))))) ∧ (∀ x9 : Int, ((0 ≤ x9 ∧ x9 ≤ rsM C n p) → (((0 < (rsM C n p - x9)) → ((((n = n) ∧ ((p + 1 + 4 * x9) = (p + 1 + 4 * x9))) ∧ ((n ≤ n) ∧ (∀ e12 : E, ((0 ≤ e12.den ∧ e12.den < n) → (((C (e12.den))) = ((C (e12.den)))))))) ∧ ((((-20) ≤ (rpX C n (p + 1 + 4 * x9)) ∧ (rpX C n (p + 1 + 4 * x9)) ≤ 20) ∧ (((-20) ≤ (rpY C n (p + 1 + 4 * x9)) ∧ (rpY C n (p + 1 + 4 * x9)) ≤ 20) ∧ (((-20) ≤ (rrHX C n (p + 1 + 4 * x9)) ∧ (rrHX C n (p + 1 + 4 * x9)) ≤ 20) ∧ ((-20) ≤ (rrHY C n (p + 1 + 4 * x9)) ∧ (rrHY C n (p + 1 + 4 * x9)) ≤ 20)))) → ((x9 = x9) ∧ (∃ y13 : Int, ((0 ≤ y13 ∧ y13 ≤ rsM C n p) ∧ ((((((.slice none 0 0) : Value) = (.slice none 0 0)) ∧ ((((x9 + 1) = y13) ∧ (((x9 + 1) ≤ 14) → (y13 ≤ 13))) ∧ ((((rsM C n p - x9) - 1) = (rsM C n p - y13)) ∧ (((-1) ≤ ((rsM C n p - x9) - 1) ∧ ((rsM C n p - x9) - 1) ≤ 12) → (0 ≤ (rsM C n p - y13) ∧ (rsM C n p - y13) ≤ 13))))) ∧ (((n = n) ∧ ((((p + 1 + 4 * x9) + 1 + 1 + 1 + 1) = (p + 1 + 4 * y13)) ∧ ((0 ≤ ((p + 1 + 4 * x9) + 1 + 1 + 1 + 1) ∧ ((p + 1 + 4 * x9) + 1 + 1 + 1 + 1) ≤ 9999804) → (0 ≤ (p + 1 + 4 * y13) ∧ (p + 1 + 4 * y13) ≤ 9999200)))) ∧ (((n ≤ n) ∧ (∀ e16 : E, ((0 ≤ e16.den ∧ e16.den < n) → (((C (e16.den))) = ((C (e16.den))))))) ∧ (((0 : Int) ≤ x9 ∧ y13 = x9 + 1) ∧ (((x9 ≤ x9) ∧ (∀ e15 : E, ((0 ≤ e15.den ∧ e15.den < x9) → (((rpX C n (p + 1 + 4 * (e15.den))) = (rpX C n (p + 1 + 4 * (e15.den)))) ∧ (((rpY C n (p + 1 + 4 * (e15.den))) = (rpY C n (p + 1 + 4 * (e15.den)))) ∧ (((rrHX C n (p + 1 + 4 * (e15.den))) = (rrHX C n (p + 1 + 4 * (e15.den)))) ∧ ((rrHY C n (p + 1 + 4 * (e15.den))) = (rrHY C n (p + 1 + 4 * (e15.den)))))))))) ∧ (∀ e14 : E, ((e14.den = x9) → (((rpX C n (p + 1 + 4 * x9)) = (rpX C n (p + 1 + 4 * (e14.den)))) ∧ (((rpY C n (p + 1 + 4 * x9)) = (rpY C n (p + 1 + 4 * (e14.den)))) ∧ (((rrHX C n (p + 1 + 4 * x9)) = (rrHX C n (p + 1 + 4 * (e14.den)))) ∧ ((rrHY C n (p + 1 + 4 * x9)) = (rrHY C n (p + 1 + 4 * (e14.den)))))))))))))) ∧ ((rsM C n p - y13).toNat < (rsM C n p - x9).toNat)))))))) ∧ (((rsM C n p - x9) ≤ 0) → (((0 < x9) → ((((n = n) ∧ ((p + 1 + 4 * x9) = (p + 1 + 4 * x9))) ∧ ((n ≤ n) ∧ (∀ e17 : E, ((0 ≤ e17.den ∧ e17.den < n) → (((C (e17.den))) = ((C (e17.den)))))))) ∧ ((0 ≤ (pk C n (p + 1 + 4 * x9) 8) ∧ (pk C n (p + 1 + 4 * x9) 8) ≤ 7) → ((((pk C n (p + 1 + 4 * x9) 8) = 0) → ((((n = n) ∧ ((((p + 1 + 4 * x9) + 1) = ((p + 1 + 4 * x9) + 1)) ∧ ((0 ≤ ((p + 1 + 4 * x9) + 1) ∧ ((p + 1 + 4 * x9) + 1) ≤ 10000001) → (0 ≤ ((p + 1 + 4 * x9) + 1) ∧ ((p + 1 + 4 * x9) + 1) ≤ 9999800)))) ∧ ((n ≤ n) ∧ (∀ e18 : E, ((0 ≤ e18.den ∧ e18.den < n) → (((C (e18.den))) = ((C (e18.den)))))))) ∧ ((((-1001) ≤ (rpX C n ((p + 1 + 4 * x9) + 1)) ∧ (rpX C n ((p + 1 + 4 * x9) + 1)) ≤ 1001) ∧ (((-1001) ≤ (arLY C n ((p + 1 + 4 * x9) + 1)) ∧ (arLY C n ((p + 1 + 4 * x9) + 1)) ≤ 1001) ∧ (((-1001) ≤ (arHX C n ((p + 1 + 4 * x9) + 1)) ∧ (arHX C n ((p + 1 + 4 * x9) + 1)) ≤ 1001) ∧ ((-1001) ≤ (rrHY C n ((p + 1 + 4 * x9) + 1)) ∧ (rrHY C n ((p + 1 + 4 * x9) + 1)) ≤ 1001)))) → ((0 < x9) ∧ ((0 < x9) ∧ ((x9 = (rsM C n p)) ∧ (((n = n) ∧ (((arP C n ((p + 1 + 4 * x9) + 1)) = (rsP C n p)) ∧ ((0 ≤ (arP C n ((p + 1 + 4 * x9) + 1)) ∧ (arP C n ((p + 1 + 4 * x9) + 1)) ≤ 9999806) → (0 ≤ (rsP C n p) ∧ (rsP C n p) ≤ 9999000)))) ∧ (((n ≤ n) ∧ (∀ e21 : E, ((0 ≤ e21.den ∧ e21.den < n) → (((C (e21.den))) = ((C (e21.den))))))) ∧ (((rsM C n p) = x9) ∧ ((∀ e20 : E, ((0 ≤ e20.den ∧ e20.den < x9 ∧ e20.den ≠ 0) → (((rpX C n (p + 1 + 4 * (e20.den))) = (rsA C n p e20.den)) ∧ (((rpY C n (p + 1 + 4 * (e20.den))) = (rsB C n p e20.den)) ∧ (((rrHX C n (p + 1 + 4 * (e20.den))) = (rsD C n p e20.den)) ∧ ((rrHY C n (p + 1 + 4 * (e20.den))) = (rsF C n p e20.den))))))) ∧ (∀ e19 : E, ((e19.den.toNat = (0 : Int).toNat ∧ 0 ≤ e19.den) → (((rpX C n ((p + 1 + 4 * x9) + 1)) = (rsA C n p e19.den)) ∧ (((arLY C n ((p + 1 + 4 * x9) + 1)) = (rsB C n p e19.den)) ∧ (((arHX C n ((p + 1 + 4 * x9) + 1)) = (rsD C n p e19.den)) ∧ ((rrHY C n ((p + 1 + 4 * x9) + 1)) = (rsF C n p e19.den))))))))))))))))) ∧ (((pk C n (p + 1 + 4 * x9) 8) ≠ 0) → ((x9 = (rsM C n p)) ∧ (((n = n) ∧ ((((p + 1 + 4 * x9) + 1) = (rsP C n p)) ∧ ((0 ≤ ((p + 1 + 4 * x9) + 1) ∧ ((p + 1 + 4 * x9) + 1) ≤ 10000001) → (0 ≤ (rsP C n p) ∧ (rsP C n p) ≤ 9999000)))) ∧ (((n ≤ n) ∧ (∀ e23 : E, ((0 ≤ e23.den ∧ e23.den < n) → (((C (e23.den))) = ((C (e23.den))))))) ∧ (((rsM C n p) ≤ x9) ∧ (∀ e22 : E, ((0 ≤ e22.den ∧ e22.den < (rsM C n p)) → (((rpX C n (p + 1 + 4 * (e22.den))) = (rsA C n p e22.den)) ∧ (((rpY C n (p + 1 + 4 * (e22.den))) = (rsB C n p e22.den)) ∧ (((rrHX C n (p + 1 + 4 * (e22.den))) = (rsD C n p e22.den)) ∧ ((rrHY C n (p + 1 + 4 * (e22.den))) = (rsF C n p e22.den)))))))))))))))) ∧ ((x9 ≤ 0) → ((x9 = (rsM C n p)) ∧ (((n = n) ∧ (((p + 1 + 4 * x9) = (rsP C n p)) ∧ ((0 ≤ (p + 1 + 4 * x9) ∧ (p + 1 + 4 * x9) ≤ 9999200) → (0 ≤ (rsP C n p) ∧ (rsP C n p) ≤ 9999000)))) ∧ (((n ≤ n) ∧ (∀ e25 : E, ((0 ≤ e25.den ∧ e25.den < n) → (((C (e25.den))) = ((C (e25.den))))))) ∧ (((rsM C n p) ≤ x9) ∧ (∀ e24 : E, ((0 ≤ e24.den ∧ e24.den < (rsM C n p)) → (((rpX C n (p + 1 + 4 * (e24.den))) = (rsA C n p e24.den)) ∧ (((rpY C n (p + 1 + 4 * (e24.den))) = (rsB C n p e24.den)) ∧ (((rrHX C n (p + 1 + 4 * (e24.den))) = (rsD C n p e24.den)) ∧ ((rrHY C n (p + 1 + 4 * (e24.den))) = (rsF C n p e24.den))))))))))))))))))))) (by kernel_rfl) ?_
  intro h1 h2
  have e0 : selL [0, 1, 2, 3, 4, 5, 13] (pk C n p 7) = rsM C n p := rfl
  refine ⟨?_, ?_⟩
  · refine ⟨⟨rfl, rfl⟩, ?_, Int.le_refl _, fun _ => fun _ => rfl⟩
    refine ⟨?_, ?_, ?_, ?_, ?_, ?_, ?_⟩
    · intro e8
      intro c27
      simp [selL, *]; done
    · intro e7
      intro c28
      simp [selL, *]; done
    · intro e6
      intro c29
      simp [selL, *]; done
    · intro e5
      intro c30
      simp [selL, *]; done
    · intro e4
      intro c31
      simp [selL, *]; done
    · intro e3
      intro c32
      simp [selL, *]; done
    · intro e2
      intro c33
      simp [selL, *]; done
  · intro c34
    refine ⟨?_, ?_⟩
    · refine ⟨0, ?_⟩
      try dsimp only
      refine ⟨?_, ?_, ?_, ⟨Int.le_refl _, fun _ => fun _ => rfl⟩, ?_⟩
      · omega
      · refine ⟨rfl, ?_, ?_⟩
        · omega
        · omega
      · refine ⟨rfl, ?_, ?_⟩
        · omega
        · intro c35
          omega
      · omega
    · intro j
      intro I1
      refine ⟨?_, ?_⟩
      · intro c36
        refine ⟨⟨⟨rfl, rfl⟩, ⟨Int.le_refl _, fun _ => fun _ => rfl⟩⟩, ?_⟩
        intro c37
        refine ⟨?_, ?_⟩
        · omega
        · refine ⟨j + 1, ?_⟩
          try dsimp only
          refine ⟨?_, ?_, ?_⟩
          · omega
          · refine ⟨?_, ?_, ⟨Int.le_refl _, fun _ => fun _ => rfl⟩, ?_, ⟨Int.le_refl _, fun _ => fun _ => ⟨rfl, ⟨rfl, ⟨rfl, rfl⟩⟩⟩⟩, ?_⟩
            · refine ⟨rfl, ?_, ?_, ?_⟩
              · refine ⟨?_, ?_⟩
                · omega
                · intro c38
                  omega
              · omega
              · intro c39
                omega
            · refine ⟨rfl, ?_, ?_⟩
              · omega
              · intro c40
                omega
            · omega
            · intro e14
              intro c41
              refine ⟨?_, ?_, ?_, ?_⟩
              · simp [selL, *]; done
              · simp [selL, *]; done
              · simp [selL, *]; done
              · simp [selL, *]; done
          · omega
      · intro c42
        refine ⟨?_, ?_⟩
        · intro c43
          refine ⟨⟨⟨rfl, rfl⟩, ⟨Int.le_refl _, fun _ => fun _ => rfl⟩⟩, ?_⟩
          intro c44
          refine ⟨?_, ?_⟩
          · intro c45
            refine ⟨?_, ?_⟩
            · refine ⟨?_, Int.le_refl _, fun _ => fun _ => rfl⟩
              refine ⟨rfl, rfl, ?_⟩
              intro c46
              omega
            · intro c47
              refine ⟨?_, ?_, ?_, ?_, ⟨Int.le_refl _, fun _ => fun _ => rfl⟩, ?_, ?_, ?_⟩
              · omega
              · omega
              · omega
              · refine ⟨rfl, ?_, ?_⟩
                · have e : j = rsM C n p := (by omega); first | (have hz := rsZ_1 (C := C) (n := n) (p := p) (j := j) (by omega) (by omega) (by assumption); first | exact (rsP_1 e (by omega) hz).symm | (have ha := arP_bd C n (p + 1 + 4 * j + 1); rw [rsP_1 e (by omega) hz]; omega) | (have hq := rs_0 hz (show e0.den = 0 by omega); subst e; first | exact hq.1.symm | exact hq.2.1.symm | exact hq.2.2.1.symm | exact hq.2.2.2.symm) | (have hq := rs_i (C := C) (n := n) (p := p) (i := e0.den) (.inr (by omega)); first | exact hq.1.symm | exact hq.2.1.symm | exact hq.2.2.1.symm | exact hq.2.2.2.symm)) | (have hz := rsZ_2 (C := C) (n := n) (p := p) (j := j) (by omega) (by assumption); first | exact (rsP_2 e (by omega) hz).symm | (rw [rsP_2 e (by omega) hz]; omega) | (have hq := rs_i (C := C) (n := n) (p := p) (i := e0.den) (.inl hz); first | exact hq.1.symm | exact hq.2.1.symm | exact hq.2.2.1.symm | exact hq.2.2.2.symm)) | (have hz := rsZ_3 (C := C) (n := n) (p := p) (j := j) (by omega) (by omega); first | exact (rsP_3 e (by omega)).symm | (rw [rsP_3 e (by omega)]; omega) | (have hq := rs_i (C := C) (n := n) (p := p) (i := e0.den) (.inl hz); first | exact hq.1.symm | exact hq.2.1.symm | exact hq.2.2.1.symm | exact hq.2.2.2.symm))
                · intro c48
                  have e : j = rsM C n p := (by omega); first | (have hz := rsZ_1 (C := C) (n := n) (p := p) (j := j) (by omega) (by omega) (by assumption); first | exact (rsP_1 e (by omega) hz).symm | (have ha := arP_bd C n (p + 1 + 4 * j + 1); rw [rsP_1 e (by omega) hz]; omega) | (have hq := rs_0 hz (show e0.den = 0 by omega); subst e; first | exact hq.1.symm | exact hq.2.1.symm | exact hq.2.2.1.symm | exact hq.2.2.2.symm) | (have hq := rs_i (C := C) (n := n) (p := p) (i := e0.den) (.inr (by omega)); first | exact hq.1.symm | exact hq.2.1.symm | exact hq.2.2.1.symm | exact hq.2.2.2.symm)) | (have hz := rsZ_2 (C := C) (n := n) (p := p) (j := j) (by omega) (by assumption); first | exact (rsP_2 e (by omega) hz).symm | (rw [rsP_2 e (by omega) hz]; omega) | (have hq := rs_i (C := C) (n := n) (p := p) (i := e0.den) (.inl hz); first | exact hq.1.symm | exact hq.2.1.symm | exact hq.2.2.1.symm | exact hq.2.2.2.symm)) | (have hz := rsZ_3 (C := C) (n := n) (p := p) (j := j) (by omega) (by omega); first | exact (rsP_3 e (by omega)).symm | (rw [rsP_3 e (by omega)]; omega) | (have hq := rs_i (C := C) (n := n) (p := p) (i := e0.den) (.inl hz); first | exact hq.1.symm | exact hq.2.1.symm | exact hq.2.2.1.symm | exact hq.2.2.2.symm))
              · omega
              · intro e20
                intro c49
                refine ⟨?_, ?_, ?_, ?_⟩
                · have e : j = rsM C n p := (by omega); first | (have hz := rsZ_1 (C := C) (n := n) (p := p) (j := j) (by omega) (by omega) (by assumption); first | exact (rsP_1 e (by omega) hz).symm | (have ha := arP_bd C n (p + 1 + 4 * j + 1); rw [rsP_1 e (by omega) hz]; omega) | (have hq := rs_0 hz (show e20.den = 0 by omega); subst e; first | exact hq.1.symm | exact hq.2.1.symm | exact hq.2.2.1.symm | exact hq.2.2.2.symm) | (have hq := rs_i (C := C) (n := n) (p := p) (i := e20.den) (.inr (by omega)); first | exact hq.1.symm | exact hq.2.1.symm | exact hq.2.2.1.symm | exact hq.2.2.2.symm)) | (have hz := rsZ_2 (C := C) (n := n) (p := p) (j := j) (by omega) (by assumption); first | exact (rsP_2 e (by omega) hz).symm | (rw [rsP_2 e (by omega) hz]; omega) | (have hq := rs_i (C := C) (n := n) (p := p) (i := e20.den) (.inl hz); first | exact hq.1.symm | exact hq.2.1.symm | exact hq.2.2.1.symm | exact hq.2.2.2.symm)) | (have hz := rsZ_3 (C := C) (n := n) (p := p) (j := j) (by omega) (by omega); first | exact (rsP_3 e (by omega)).symm | (rw [rsP_3 e (by omega)]; omega) | (have hq := rs_i (C := C) (n := n) (p := p) (i := e20.den) (.inl hz); first | exact hq.1.symm | exact hq.2.1.symm | exact hq.2.2.1.symm | exact hq.2.2.2.symm))
                · have e : j = rsM C n p := (by omega); first | (have hz := rsZ_1 (C := C) (n := n) (p := p) (j := j) (by omega) (by omega) (by assumption); first | exact (rsP_1 e (by omega) hz).symm | (have ha := arP_bd C n (p + 1 + 4 * j + 1); rw [rsP_1 e (by omega) hz]; omega) | (have hq := rs_0 hz (show e20.den = 0 by omega); subst e; first | exact hq.1.symm | exact hq.2.1.symm | exact hq.2.2.1.symm | exact hq.2.2.2.symm) | (have hq := rs_i (C := C) (n := n) (p := p) (i := e20.den) (.inr (by omega)); first | exact hq.1.symm | exact hq.2.1.symm | exact hq.2.2.1.symm | exact hq.2.2.2.symm)) | (have hz := rsZ_2 (C := C) (n := n) (p := p) (j := j) (by omega) (by assumption); first | exact (rsP_2 e (by omega) hz).symm | (rw [rsP_2 e (by omega) hz]; omega) | (have hq := rs_i (C := C) (n := n) (p := p) (i := e20.den) (.inl hz); first | exact hq.1.symm | exact hq.2.1.symm | exact hq.2.2.1.symm | exact hq.2.2.2.symm)) | (have hz := rsZ_3 (C := C) (n := n) (p := p) (j := j) (by omega) (by omega); first | exact (rsP_3 e (by omega)).symm | (rw [rsP_3 e (by omega)]; omega) | (have hq := rs_i (C := C) (n := n) (p := p) (i := e20.den) (.inl hz); first | exact hq.1.symm | exact hq.2.1.symm | exact hq.2.2.1.symm | exact hq.2.2.2.symm))
                · have e : j = rsM C n p := (by omega); first | (have hz := rsZ_1 (C := C) (n := n) (p := p) (j := j) (by omega) (by omega) (by assumption); first | exact (rsP_1 e (by omega) hz).symm | (have ha := arP_bd C n (p + 1 + 4 * j + 1); rw [rsP_1 e (by omega) hz]; omega) | (have hq := rs_0 hz (show e20.den = 0 by omega); subst e; first | exact hq.1.symm | exact hq.2.1.symm | exact hq.2.2.1.symm | exact hq.2.2.2.symm) | (have hq := rs_i (C := C) (n := n) (p := p) (i := e20.den) (.inr (by omega)); first | exact hq.1.symm | exact hq.2.1.symm | exact hq.2.2.1.symm | exact hq.2.2.2.symm)) | (have hz := rsZ_2 (C := C) (n := n) (p := p) (j := j) (by omega) (by assumption); first | exact (rsP_2 e (by omega) hz).symm | (rw [rsP_2 e (by omega) hz]; omega) | (have hq := rs_i (C := C) (n := n) (p := p) (i := e20.den) (.inl hz); first | exact hq.1.symm | exact hq.2.1.symm | exact hq.2.2.1.symm | exact hq.2.2.2.symm)) | (have hz := rsZ_3 (C := C) (n := n) (p := p) (j := j) (by omega) (by omega); first | exact (rsP_3 e (by omega)).symm | (rw [rsP_3 e (by omega)]; omega) | (have hq := rs_i (C := C) (n := n) (p := p) (i := e20.den) (.inl hz); first | exact hq.1.symm | exact hq.2.1.symm | exact hq.2.2.1.symm | exact hq.2.2.2.symm))
                · have e : j = rsM C n p := (by omega); first | (have hz := rsZ_1 (C := C) (n := n) (p := p) (j := j) (by omega) (by omega) (by assumption); first | exact (rsP_1 e (by omega) hz).symm | (have ha := arP_bd C n (p + 1 + 4 * j + 1); rw [rsP_1 e (by omega) hz]; omega) | (have hq := rs_0 hz (show e20.den = 0 by omega); subst e; first | exact hq.1.symm | exact hq.2.1.symm | exact hq.2.2.1.symm | exact hq.2.2.2.symm) | (have hq := rs_i (C := C) (n := n) (p := p) (i := e20.den) (.inr (by omega)); first | exact hq.1.symm | exact hq.2.1.symm | exact hq.2.2.1.symm | exact hq.2.2.2.symm)) | (have hz := rsZ_2 (C := C) (n := n) (p := p) (j := j) (by omega) (by assumption); first | exact (rsP_2 e (by omega) hz).symm | (rw [rsP_2 e (by omega) hz]; omega) | (have hq := rs_i (C := C) (n := n) (p := p) (i := e20.den) (.inl hz); first | exact hq.1.symm | exact hq.2.1.symm | exact hq.2.2.1.symm | exact hq.2.2.2.symm)) | (have hz := rsZ_3 (C := C) (n := n) (p := p) (j := j) (by omega) (by omega); first | exact (rsP_3 e (by omega)).symm | (rw [rsP_3 e (by omega)]; omega) | (have hq := rs_i (C := C) (n := n) (p := p) (i := e20.den) (.inl hz); first | exact hq.1.symm | exact hq.2.1.symm | exact hq.2.2.1.symm | exact hq.2.2.2.symm))
              · intro e19
                intro c50
                refine ⟨?_, ?_, ?_, ?_⟩
                · have e : j = rsM C n p := (by omega); first | (have hz := rsZ_1 (C := C) (n := n) (p := p) (j := j) (by omega) (by omega) (by assumption); first | exact (rsP_1 e (by omega) hz).symm | (have ha := arP_bd C n (p + 1 + 4 * j + 1); rw [rsP_1 e (by omega) hz]; omega) | (have hq := rs_0 hz (show e19.den = 0 by omega); subst e; first | exact hq.1.symm | exact hq.2.1.symm | exact hq.2.2.1.symm | exact hq.2.2.2.symm) | (have hq := rs_i (C := C) (n := n) (p := p) (i := e19.den) (.inr (by omega)); first | exact hq.1.symm | exact hq.2.1.symm | exact hq.2.2.1.symm | exact hq.2.2.2.symm)) | (have hz := rsZ_2 (C := C) (n := n) (p := p) (j := j) (by omega) (by assumption); first | exact (rsP_2 e (by omega) hz).symm | (rw [rsP_2 e (by omega) hz]; omega) | (have hq := rs_i (C := C) (n := n) (p := p) (i := e19.den) (.inl hz); first | exact hq.1.symm | exact hq.2.1.symm | exact hq.2.2.1.symm | exact hq.2.2.2.symm)) | (have hz := rsZ_3 (C := C) (n := n) (p := p) (j := j) (by omega) (by omega); first | exact (rsP_3 e (by omega)).symm | (rw [rsP_3 e (by omega)]; omega) | (have hq := rs_i (C := C) (n := n) (p := p) (i := e19.den) (.inl hz); first | exact hq.1.symm | exact hq.2.1.symm | exact hq.2.2.1.symm | exact hq.2.2.2.symm))
                · have e : j = rsM C n p := (by omega); first | (have hz := rsZ_1 (C := C) (n := n) (p := p) (j := j) (by omega) (by omega) (by assumption); first | exact (rsP_1 e (by omega) hz).symm | (have ha := arP_bd C n (p + 1 + 4 * j + 1); rw [rsP_1 e (by omega) hz]; omega) | (have hq := rs_0 hz (show e19.den = 0 by omega); subst e; first | exact hq.1.symm | exact hq.2.1.symm | exact hq.2.2.1.symm | exact hq.2.2.2.symm) | (have hq := rs_i (C := C) (n := n) (p := p) (i := e19.den) (.inr (by omega)); first | exact hq.1.symm | exact hq.2.1.symm | exact hq.2.2.1.symm | exact hq.2.2.2.symm)) | (have hz := rsZ_2 (C := C) (n := n) (p := p) (j := j) (by omega) (by assumption); first | exact (rsP_2 e (by omega) hz).symm | (rw [rsP_2 e (by omega) hz]; omega) | (have hq := rs_i (C := C) (n := n) (p := p) (i := e19.den) (.inl hz); first | exact hq.1.symm | exact hq.2.1.symm | exact hq.2.2.1.symm | exact hq.2.2.2.symm)) | (have hz := rsZ_3 (C := C) (n := n) (p := p) (j := j) (by omega) (by omega); first | exact (rsP_3 e (by omega)).symm | (rw [rsP_3 e (by omega)]; omega) | (have hq := rs_i (C := C) (n := n) (p := p) (i := e19.den) (.inl hz); first | exact hq.1.symm | exact hq.2.1.symm | exact hq.2.2.1.symm | exact hq.2.2.2.symm))
                · have e : j = rsM C n p := (by omega); first | (have hz := rsZ_1 (C := C) (n := n) (p := p) (j := j) (by omega) (by omega) (by assumption); first | exact (rsP_1 e (by omega) hz).symm | (have ha := arP_bd C n (p + 1 + 4 * j + 1); rw [rsP_1 e (by omega) hz]; omega) | (have hq := rs_0 hz (show e19.den = 0 by omega); subst e; first | exact hq.1.symm | exact hq.2.1.symm | exact hq.2.2.1.symm | exact hq.2.2.2.symm) | (have hq := rs_i (C := C) (n := n) (p := p) (i := e19.den) (.inr (by omega)); first | exact hq.1.symm | exact hq.2.1.symm | exact hq.2.2.1.symm | exact hq.2.2.2.symm)) | (have hz := rsZ_2 (C := C) (n := n) (p := p) (j := j) (by omega) (by assumption); first | exact (rsP_2 e (by omega) hz).symm | (rw [rsP_2 e (by omega) hz]; omega) | (have hq := rs_i (C := C) (n := n) (p := p) (i := e19.den) (.inl hz); first | exact hq.1.symm | exact hq.2.1.symm | exact hq.2.2.1.symm | exact hq.2.2.2.symm)) | (have hz := rsZ_3 (C := C) (n := n) (p := p) (j := j) (by omega) (by omega); first | exact (rsP_3 e (by omega)).symm | (rw [rsP_3 e (by omega)]; omega) | (have hq := rs_i (C := C) (n := n) (p := p) (i := e19.den) (.inl hz); first | exact hq.1.symm | exact hq.2.1.symm | exact hq.2.2.1.symm | exact hq.2.2.2.symm))
                · have e : j = rsM C n p := (by omega); first | (have hz := rsZ_1 (C := C) (n := n) (p := p) (j := j) (by omega) (by omega) (by assumption); first | exact (rsP_1 e (by omega) hz).symm | (have ha := arP_bd C n (p + 1 + 4 * j + 1); rw [rsP_1 e (by omega) hz]; omega) | (have hq := rs_0 hz (show e19.den = 0 by omega); subst e; first | exact hq.1.symm | exact hq.2.1.symm | exact hq.2.2.1.symm | exact hq.2.2.2.symm) | (have hq := rs_i (C := C) (n := n) (p := p) (i := e19.den) (.inr (by omega)); first | exact hq.1.symm | exact hq.2.1.symm | exact hq.2.2.1.symm | exact hq.2.2.2.symm)) | (have hz := rsZ_2 (C := C) (n := n) (p := p) (j := j) (by omega) (by assumption); first | exact (rsP_2 e (by omega) hz).symm | (rw [rsP_2 e (by omega) hz]; omega) | (have hq := rs_i (C := C) (n := n) (p := p) (i := e19.den) (.inl hz); first | exact hq.1.symm | exact hq.2.1.symm | exact hq.2.2.1.symm | exact hq.2.2.2.symm)) | (have hz := rsZ_3 (C := C) (n := n) (p := p) (j := j) (by omega) (by omega); first | exact (rsP_3 e (by omega)).symm | (rw [rsP_3 e (by omega)]; omega) | (have hq := rs_i (C := C) (n := n) (p := p) (i := e19.den) (.inl hz); first | exact hq.1.symm | exact hq.2.1.symm | exact hq.2.2.1.symm | exact hq.2.2.2.symm))
          · intro c51
            refine ⟨?_, ?_, ⟨Int.le_refl _, fun _ => fun _ => rfl⟩, ?_, ?_⟩
            · omega
            · refine ⟨rfl, ?_, ?_⟩
              · have e : j = rsM C n p := (by omega); first | (have hz := rsZ_1 (C := C) (n := n) (p := p) (j := j) (by omega) (by omega) (by assumption); first | exact (rsP_1 e (by omega) hz).symm | (have ha := arP_bd C n (p + 1 + 4 * j + 1); rw [rsP_1 e (by omega) hz]; omega) | (have hq := rs_0 hz (show e0.den = 0 by omega); subst e; first | exact hq.1.symm | exact hq.2.1.symm | exact hq.2.2.1.symm | exact hq.2.2.2.symm) | (have hq := rs_i (C := C) (n := n) (p := p) (i := e0.den) (.inr (by omega)); first | exact hq.1.symm | exact hq.2.1.symm | exact hq.2.2.1.symm | exact hq.2.2.2.symm)) | (have hz := rsZ_2 (C := C) (n := n) (p := p) (j := j) (by omega) (by assumption); first | exact (rsP_2 e (by omega) hz).symm | (rw [rsP_2 e (by omega) hz]; omega) | (have hq := rs_i (C := C) (n := n) (p := p) (i := e0.den) (.inl hz); first | exact hq.1.symm | exact hq.2.1.symm | exact hq.2.2.1.symm | exact hq.2.2.2.symm)) | (have hz := rsZ_3 (C := C) (n := n) (p := p) (j := j) (by omega) (by omega); first | exact (rsP_3 e (by omega)).symm | (rw [rsP_3 e (by omega)]; omega) | (have hq := rs_i (C := C) (n := n) (p := p) (i := e0.den) (.inl hz); first | exact hq.1.symm | exact hq.2.1.symm | exact hq.2.2.1.symm | exact hq.2.2.2.symm))
              · intro c52
                have e : j = rsM C n p := (by omega); first | (have hz := rsZ_1 (C := C) (n := n) (p := p) (j := j) (by omega) (by omega) (by assumption); first | exact (rsP_1 e (by omega) hz).symm | (have ha := arP_bd C n (p + 1 + 4 * j + 1); rw [rsP_1 e (by omega) hz]; omega) | (have hq := rs_0 hz (show e0.den = 0 by omega); subst e; first | exact hq.1.symm | exact hq.2.1.symm | exact hq.2.2.1.symm | exact hq.2.2.2.symm) | (have hq := rs_i (C := C) (n := n) (p := p) (i := e0.den) (.inr (by omega)); first | exact hq.1.symm | exact hq.2.1.symm | exact hq.2.2.1.symm | exact hq.2.2.2.symm)) | (have hz := rsZ_2 (C := C) (n := n) (p := p) (j := j) (by omega) (by assumption); first | exact (rsP_2 e (by omega) hz).symm | (rw [rsP_2 e (by omega) hz]; omega) | (have hq := rs_i (C := C) (n := n) (p := p) (i := e0.den) (.inl hz); first | exact hq.1.symm | exact hq.2.1.symm | exact hq.2.2.1.symm | exact hq.2.2.2.symm)) | (have hz := rsZ_3 (C := C) (n := n) (p := p) (j := j) (by omega) (by omega); first | exact (rsP_3 e (by omega)).symm | (rw [rsP_3 e (by omega)]; omega) | (have hq := rs_i (C := C) (n := n) (p := p) (i := e0.den) (.inl hz); first | exact hq.1.symm | exact hq.2.1.symm | exact hq.2.2.1.symm | exact hq.2.2.2.symm))
            · omega
            · intro e22
              intro c53
              refine ⟨?_, ?_, ?_, ?_⟩
              · have e : j = rsM C n p := (by omega); first | (have hz := rsZ_1 (C := C) (n := n) (p := p) (j := j) (by omega) (by omega) (by assumption); first | exact (rsP_1 e (by omega) hz).symm | (have ha := arP_bd C n (p + 1 + 4 * j + 1); rw [rsP_1 e (by omega) hz]; omega) | (have hq := rs_0 hz (show e22.den = 0 by omega); subst e; first | exact hq.1.symm | exact hq.2.1.symm | exact hq.2.2.1.symm | exact hq.2.2.2.symm) | (have hq := rs_i (C := C) (n := n) (p := p) (i := e22.den) (.inr (by omega)); first | exact hq.1.symm | exact hq.2.1.symm | exact hq.2.2.1.symm | exact hq.2.2.2.symm)) | (have hz := rsZ_2 (C := C) (n := n) (p := p) (j := j) (by omega) (by assumption); first | exact (rsP_2 e (by omega) hz).symm | (rw [rsP_2 e (by omega) hz]; omega) | (have hq := rs_i (C := C) (n := n) (p := p) (i := e22.den) (.inl hz); first | exact hq.1.symm | exact hq.2.1.symm | exact hq.2.2.1.symm | exact hq.2.2.2.symm)) | (have hz := rsZ_3 (C := C) (n := n) (p := p) (j := j) (by omega) (by omega); first | exact (rsP_3 e (by omega)).symm | (rw [rsP_3 e (by omega)]; omega) | (have hq := rs_i (C := C) (n := n) (p := p) (i := e22.den) (.inl hz); first | exact hq.1.symm | exact hq.2.1.symm | exact hq.2.2.1.symm | exact hq.2.2.2.symm))
              · have e : j = rsM C n p := (by omega); first | (have hz := rsZ_1 (C := C) (n := n) (p := p) (j := j) (by omega) (by omega) (by assumption); first | exact (rsP_1 e (by omega) hz).symm | (have ha := arP_bd C n (p + 1 + 4 * j + 1); rw [rsP_1 e (by omega) hz]; omega) | (have hq := rs_0 hz (show e22.den = 0 by omega); subst e; first | exact hq.1.symm | exact hq.2.1.symm | exact hq.2.2.1.symm | exact hq.2.2.2.symm) | (have hq := rs_i (C := C) (n := n) (p := p) (i := e22.den) (.inr (by omega)); first | exact hq.1.symm | exact hq.2.1.symm | exact hq.2.2.1.symm | exact hq.2.2.2.symm)) | (have hz := rsZ_2 (C := C) (n := n) (p := p) (j := j) (by omega) (by assumption); first | exact (rsP_2 e (by omega) hz).symm | (rw [rsP_2 e (by omega) hz]; omega) | (have hq := rs_i (C := C) (n := n) (p := p) (i := e22.den) (.inl hz); first | exact hq.1.symm | exact hq.2.1.symm | exact hq.2.2.1.symm | exact hq.2.2.2.symm)) | (have hz := rsZ_3 (C := C) (n := n) (p := p) (j := j) (by omega) (by omega); first | exact (rsP_3 e (by omega)).symm | (rw [rsP_3 e (by omega)]; omega) | (have hq := rs_i (C := C) (n := n) (p := p) (i := e22.den) (.inl hz); first | exact hq.1.symm | exact hq.2.1.symm | exact hq.2.2.1.symm | exact hq.2.2.2.symm))
              · have e : j = rsM C n p := (by omega); first | (have hz := rsZ_1 (C := C) (n := n) (p := p) (j := j) (by omega) (by omega) (by assumption); first | exact (rsP_1 e (by omega) hz).symm | (have ha := arP_bd C n (p + 1 + 4 * j + 1); rw [rsP_1 e (by omega) hz]; omega) | (have hq := rs_0 hz (show e22.den = 0 by omega); subst e; first | exact hq.1.symm | exact hq.2.1.symm | exact hq.2.2.1.symm | exact hq.2.2.2.symm) | (have hq := rs_i (C := C) (n := n) (p := p) (i := e22.den) (.inr (by omega)); first | exact hq.1.symm | exact hq.2.1.symm | exact hq.2.2.1.symm | exact hq.2.2.2.symm)) | (have hz := rsZ_2 (C := C) (n := n) (p := p) (j := j) (by omega) (by assumption); first | exact (rsP_2 e (by omega) hz).symm | (rw [rsP_2 e (by omega) hz]; omega) | (have hq := rs_i (C := C) (n := n) (p := p) (i := e22.den) (.inl hz); first | exact hq.1.symm | exact hq.2.1.symm | exact hq.2.2.1.symm | exact hq.2.2.2.symm)) | (have hz := rsZ_3 (C := C) (n := n) (p := p) (j := j) (by omega) (by omega); first | exact (rsP_3 e (by omega)).symm | (rw [rsP_3 e (by omega)]; omega) | (have hq := rs_i (C := C) (n := n) (p := p) (i := e22.den) (.inl hz); first | exact hq.1.symm | exact hq.2.1.symm | exact hq.2.2.1.symm | exact hq.2.2.2.symm))
              · have e : j = rsM C n p := (by omega); first | (have hz := rsZ_1 (C := C) (n := n) (p := p) (j := j) (by omega) (by omega) (by assumption); first | exact (rsP_1 e (by omega) hz).symm | (have ha := arP_bd C n (p + 1 + 4 * j + 1); rw [rsP_1 e (by omega) hz]; omega) | (have hq := rs_0 hz (show e22.den = 0 by omega); subst e; first | exact hq.1.symm | exact hq.2.1.symm | exact hq.2.2.1.symm | exact hq.2.2.2.symm) | (have hq := rs_i (C := C) (n := n) (p := p) (i := e22.den) (.inr (by omega)); first | exact hq.1.symm | exact hq.2.1.symm | exact hq.2.2.1.symm | exact hq.2.2.2.symm)) | (have hz := rsZ_2 (C := C) (n := n) (p := p) (j := j) (by omega) (by assumption); first | exact (rsP_2 e (by omega) hz).symm | (rw [rsP_2 e (by omega) hz]; omega) | (have hq := rs_i (C := C) (n := n) (p := p) (i := e22.den) (.inl hz); first | exact hq.1.symm | exact hq.2.1.symm | exact hq.2.2.1.symm | exact hq.2.2.2.symm)) | (have hz := rsZ_3 (C := C) (n := n) (p := p) (j := j) (by omega) (by omega); first | exact (rsP_3 e (by omega)).symm | (rw [rsP_3 e (by omega)]; omega) | (have hq := rs_i (C := C) (n := n) (p := p) (i := e22.den) (.inl hz); first | exact hq.1.symm | exact hq.2.1.symm | exact hq.2.2.1.symm | exact hq.2.2.2.symm))
        · intro c54
          refine ⟨?_, ?_, ⟨Int.le_refl _, fun _ => fun _ => rfl⟩, ?_, ?_⟩
          · omega
          · refine ⟨rfl, ?_, ?_⟩
            · have e : j = rsM C n p := (by omega); first | (have hz := rsZ_1 (C := C) (n := n) (p := p) (j := j) (by omega) (by omega) (by assumption); first | exact (rsP_1 e (by omega) hz).symm | (have ha := arP_bd C n (p + 1 + 4 * j + 1); rw [rsP_1 e (by omega) hz]; omega) | (have hq := rs_0 hz (show e0.den = 0 by omega); subst e; first | exact hq.1.symm | exact hq.2.1.symm | exact hq.2.2.1.symm | exact hq.2.2.2.symm) | (have hq := rs_i (C := C) (n := n) (p := p) (i := e0.den) (.inr (by omega)); first | exact hq.1.symm | exact hq.2.1.symm | exact hq.2.2.1.symm | exact hq.2.2.2.symm)) | (have hz := rsZ_2 (C := C) (n := n) (p := p) (j := j) (by omega) (by assumption); first | exact (rsP_2 e (by omega) hz).symm | (rw [rsP_2 e (by omega) hz]; omega) | (have hq := rs_i (C := C) (n := n) (p := p) (i := e0.den) (.inl hz); first | exact hq.1.symm | exact hq.2.1.symm | exact hq.2.2.1.symm | exact hq.2.2.2.symm)) | (have hz := rsZ_3 (C := C) (n := n) (p := p) (j := j) (by omega) (by omega); first | exact (rsP_3 e (by omega)).symm | (rw [rsP_3 e (by omega)]; omega) | (have hq := rs_i (C := C) (n := n) (p := p) (i := e0.den) (.inl hz); first | exact hq.1.symm | exact hq.2.1.symm | exact hq.2.2.1.symm | exact hq.2.2.2.symm))
            · intro c55
              have e : j = rsM C n p := (by omega); first | (have hz := rsZ_1 (C := C) (n := n) (p := p) (j := j) (by omega) (by omega) (by assumption); first | exact (rsP_1 e (by omega) hz).symm | (have ha := arP_bd C n (p + 1 + 4 * j + 1); rw [rsP_1 e (by omega) hz]; omega) | (have hq := rs_0 hz (show e0.den = 0 by omega); subst e; first | exact hq.1.symm | exact hq.2.1.symm | exact hq.2.2.1.symm | exact hq.2.2.2.symm) | (have hq := rs_i (C := C) (n := n) (p := p) (i := e0.den) (.inr (by omega)); first | exact hq.1.symm | exact hq.2.1.symm | exact hq.2.2.1.symm | exact hq.2.2.2.symm)) | (have hz := rsZ_2 (C := C) (n := n) (p := p) (j := j) (by omega) (by assumption); first | exact (rsP_2 e (by omega) hz).symm | (rw [rsP_2 e (by omega) hz]; omega) | (have hq := rs_i (C := C) (n := n) (p := p) (i := e0.den) (.inl hz); first | exact hq.1.symm | exact hq.2.1.symm | exact hq.2.2.1.symm | exact hq.2.2.2.symm)) | (have hz := rsZ_3 (C := C) (n := n) (p := p) (j := j) (by omega) (by omega); first | exact (rsP_3 e (by omega)).symm | (rw [rsP_3 e (by omega)]; omega) | (have hq := rs_i (C := C) (n := n) (p := p) (i := e0.den) (.inl hz); first | exact hq.1.symm | exact hq.2.1.symm | exact hq.2.2.1.symm | exact hq.2.2.2.symm))
          · omega
          · intro e24
            intro c56
            refine ⟨?_, ?_, ?_, ?_⟩
            · omega
            · omega
            · omega
            · omega
def c_anyRects (C : Int → Int) (n : Int) (p : Int) : Cn Try.prog := ⟨_, _, _, _, _, anyRects C n p⟩
end Go.Proofs.Ytpnjopppclmfkaa
