/- FnAddRats: the walk. -/
import Derived.Test.YtnombddkojljdaaK13
set_option linter.unusedSimpArgs false
set_option linter.unusedVariables false
set_option maxRecDepth 100000
namespace Go.Proofs.Ytnombddkojljdaa
open Go.Sym
/-- The comparison of two fractions. -/
def cmpQ (aN aD bN bD : Int) : Int := if okR aN aD && okR bN bD then (if aN * bD < bN * aD then -1 else if aN * bD > bN * aD then 1 else 0) else 2
theorem cmpQ_yes {aN aD bN bD : Int} (h1 : okR aN aD = true) (h2 : okR bN bD = true) : (if aN * bD < bN * aD then -1 else if aN * bD > bN * aD then 1 else 0) = cmpQ aN aD bN bD := by
  unfold cmpQ; rw [h1, h2]; rfl
theorem cmpQ_no {aN aD bN bD : Int} (h : okR aN aD = false ∨ okR bN bD = false) : 2 = cmpQ aN aD bN bD := by
  unfold cmpQ
  rcases h with h | h
  · rw [h]; rfl
  · rw [h, Bool.and_false]; rfl
theorem add_comm_ok (a0 a1 b0 b1 : Int) : addOK b0 b1 a0 a1 = addOK a0 a1 b0 b1 := by
  unfold addOK
  rw [Int.add_comm (b0 * a1), Int.mul_comm b1 a1]
  cases okR a0 a1 <;> cases okR b0 b1 <;> simp
theorem add_comm_n (a0 a1 b0 b1 : Int) : addN b0 b1 a0 a1 = addN a0 a1 b0 b1 := by
  unfold addN
  rw [add_comm_ok, Int.add_comm (b0 * a1), Int.mul_comm b1 a1]
theorem add_comm_d (a0 a1 b0 b1 : Int) : addD b0 b1 a0 a1 = addD a0 a1 b0 b1 := by
  unfold addD
  rw [add_comm_ok, Int.add_comm (b0 * a1), Int.mul_comm b1 a1]
theorem sign_t (g t s a : Int) (hg : 1 ≤ g) (ha : 1 ≤ a) (h : g * t = s * a * a) : (0 < s → 0 < t) ∧ (s < 0 → t < 0) ∧ (s = 0 → t = 0) := by
  refine ⟨fun hs => ?_, fun hs => ?_, fun hs => ?_⟩
  · have h1 : 0 < s * a * a := Int.mul_pos (Int.mul_pos hs (by omega)) (by omega)
    rw [← h] at h1
    exact Int.pos_of_mul_pos_right h1 (by omega)
  · have h1 : 0 < -s * a * a := Int.mul_pos (Int.mul_pos (by omega) (by omega)) (by omega)
    have h2 : 0 < g * (-t) := by rw [Int.neg_mul, Int.neg_mul, ← h] at h1; rw [Int.mul_neg]; exact h1
    have := Int.pos_of_mul_pos_right h2 (by omega)
    omega
  · subst hs
    have h2 : g * t = 0 := by rw [h]; simp
    rcases Int.mul_eq_zero.1 h2 with h3 | h3
    · omega
    · exact h3
theorem cmp_add {a0 a1 b0 b1 : Int} (h : addOK a0 a1 b0 b1 = true) : (0 < cmpQ (addN a0 a1 b0 b1) (addD a0 a1 b0 b1) a0 a1 ↔ 0 < b0) ∧ (cmpQ (addN a0 a1 b0 b1) (addD a0 a1 b0 b1) a0 a1 < 0 ↔ b0 < 0) := by
  have h1 := (add_facts h).1
  have hh := h
  unfold addOK at hh
  simp only [Bool.and_eq_true] at hh
  obtain ⟨ha, hb, _⟩ := hh
  rw [← cmpQ_yes h1 ha]
  unfold addN addD orZ
  rw [if_pos h, if_pos h]
  obtain ⟨_, ⟨p3, p4⟩, _⟩ := okR_bd ha
  obtain ⟨_, ⟨p5, p6⟩, _⟩ := okR_bd hb
  have hp : 1 ≤ a1 * b1 := by have := Int.mul_pos (a := a1) (b := b1) (by omega) (by omega); omega
  have r1 : redN (a0 * b1 + b0 * a1) (a1 * b1) = (a0 * b1 + b0 * a1) / gcdI (a0 * b1 + b0 * a1) (a1 * b1) := by unfold redN; rw [if_neg (by omega)]
  have r2 : redD (a0 * b1 + b0 * a1) (a1 * b1) = (a1 * b1) / gcdI (a0 * b1 + b0 * a1) (a1 * b1) := by unfold redD; rw [if_neg (by omega)]
  rw [r1, r2]
  clear r1 r2
  have hg := gcdI_pos (a0 * b1 + b0 * a1) (a1 * b1) (by omega)
  have e1 := Int.mul_ediv_cancel' (gcdI_left (a0 * b1 + b0 * a1) (a1 * b1))
  have e2 := Int.mul_ediv_cancel' (gcdI_right (a0 * b1 + b0 * a1) (a1 * b1))
  generalize gcdI (a0 * b1 + b0 * a1) (a1 * b1) = g at *
  generalize (a0 * b1 + b0 * a1) / g = n at *
  generalize (a1 * b1) / g = d at *
  obtain ⟨t1, t2, t3⟩ := sign_t g (n * a1 - a0 * d) b0 a1 hg p3 (by grind)
  generalize n * a1 = u at *
  generalize a0 * d = v at *
  (repeat' split) <;> omega
theorem i_rcompare (rN : Int) (rD : Int) (sN : Int) (sD : Int) : RunsTo Try.prog 40 [(.agg [(.int .i64 (.v fun _ => rN) (-100000000000) 100000000000), (.int .i64 (.v fun _ => rD) 1 20000000)]), (.agg [(.int .i64 (.v fun _ => sN) (-100000000000) 100000000000), (.int .i64 (.v fun _ => sD) 1 20000000)])] [] (.int .i64 (.v fun _ => if rN * sD < sN * rD then -1 else if rN * sD > sN * rD then 1 else 0) (-1) 1) [] := by
  refine RunsTo.go env Try.func40 rfl Try.call40 rfl rfl (fun _ _ => (.call (c_c_Compare (rN * sD) (sN * rD)) .ret)) (G := ((((-100000000000) ≤ rN ∧ rN ≤ 100000000000) ∧ (1 ≤ rD ∧ rD ≤ 20000000)) ∧ (((-100000000000) ≤ sN ∧ sN ≤ 100000000000) ∧ (1 ≤ sD ∧ sD ≤ 20000000))) → (True) → ((((rN * sD) = (rN * sD)) ∧ ((sN * rD) = (sN * rD))) ∧ ((if (rN * sD) < (sN * rD) then -1 else if (rN * sD) > (sN * rD) then 1 else 0) = (if rN * sD < sN * rD then -1 else if rN * sD > sN * rD then 1 else 0)))) (by kernel_rfl) ?_
  intro h1 h2
  refine ⟨⟨rfl, rfl⟩, ?_⟩
  -- 1: (if (rN * sD) < (sN * rD) then -1 else if (rN * sD) > (sN * rD) then 1 else 0) = (if rN * sD < sN * 
  omega
def c_i_rcompare (rN : Int) (rD : Int) (sN : Int) (sD : Int) : Cn Try.prog := ⟨_, _, _, _, _, i_rcompare rN rD sN sD⟩
theorem i_CompareRats (aN : Int) (aD : Int) (bN : Int) (bD : Int) : RunsTo Try.prog 17 [(.agg [(.int .i64 (.v fun _ => aN) (-4000000000000000000) 4000000000000000000), (.int .i64 (.v fun _ => aD) (-4000000000000000000) 4000000000000000000)]), (.agg [(.int .i64 (.v fun _ => bN) (-4000000000000000000) 4000000000000000000), (.int .i64 (.v fun _ => bD) (-4000000000000000000) 4000000000000000000)])] [] (.int .i64 (.v fun _ => cmpQ aN aD bN bD) (-1) 2) [] := by
  refine RunsTo.go env Try.func17 rfl Try.call17 rfl rfl (fun _ _ => (.call (c_i_rvalid aN aD) (.ite .ret (.call (c_i_rvalid bN bD) (.ite .ret (.call (c_i_rcompare aN aD bN bD) .ret)))))) (G := ((((-4000000000000000000) ≤ aN ∧ aN ≤ 4000000000000000000) ∧ ((-4000000000000000000) ≤ aD ∧ aD ≤ 4000000000000000000)) ∧ (((-4000000000000000000) ≤ bN ∧ bN ≤ 4000000000000000000) ∧ ((-4000000000000000000) ≤ bD ∧ bD ≤ 4000000000000000000))) → (True) → (((aN = aN) ∧ (aD = aD)) ∧ ((((okR aN aD) = false) → ((2 : Int) = (cmpQ aN aD bN bD))) ∧ (((okR aN aD) = true) → (((bN = bN) ∧ (bD = bD)) ∧ ((((okR bN bD) = false) → ((2 : Int) = (cmpQ aN aD bN bD))) ∧ (((okR bN bD) = true) → (((((aN = aN) ∧ (((-4000000000000000000) ≤ aN ∧ aN ≤ 4000000000000000000) → ((-100000000000) ≤ aN ∧ aN ≤ 100000000000))) ∧ ((aD = aD) ∧ (((-4000000000000000000) ≤ aD ∧ aD ≤ 4000000000000000000) → (1 ≤ aD ∧ aD ≤ 20000000)))) ∧ (((bN = bN) ∧ (((-4000000000000000000) ≤ bN ∧ bN ≤ 4000000000000000000) → ((-100000000000) ≤ bN ∧ bN ≤ 100000000000))) ∧ ((bD = bD) ∧ (((-4000000000000000000) ≤ bD ∧ bD ≤ 4000000000000000000) → (1 ≤ bD ∧ bD ≤ 20000000))))) ∧ ((if aN * bD < bN * aD then -1 else if aN * bD > bN * aD then 1 else 0) = (cmpQ aN aD bN bD)))))))))) (by kernel_rfl) ?_
  intro h1 h2
  refine ⟨⟨rfl, rfl⟩, ?_, ?_⟩
  · intro c1
    -- 1: (2 : Int) = (cmpQ aN aD bN bD)
    first | rfl | omega | exact cmpQ_no (.inl (by assumption)) | exact cmpQ_no (.inr (by assumption)) | exact cmpQ_yes (by assumption) (by assumption) | (have oa := okR_bd (show okR aN aD = true by assumption); have ob := okR_bd (show okR bN bD = true by assumption); omega) | (rw [← cmpQ_yes (by assumption) (by assumption)]; omega) | fail
  · intro c2
    refine ⟨⟨rfl, rfl⟩, ?_, ?_⟩
    · intro c3
      -- 2: (2 : Int) = (cmpQ aN aD bN bD)
      first | rfl | omega | exact cmpQ_no (.inl (by assumption)) | exact cmpQ_no (.inr (by assumption)) | exact cmpQ_yes (by assumption) (by assumption) | (have oa := okR_bd (show okR aN aD = true by assumption); have ob := okR_bd (show okR bN bD = true by assumption); omega) | (rw [← cmpQ_yes (by assumption) (by assumption)]; omega) | fail
    · intro c4
      refine ⟨?_, ?_⟩
      · refine ⟨?_, ?_, rfl, ?_⟩
        · refine ⟨?_, rfl, ?_⟩
          · refine ⟨rfl, ?_⟩
            intro c5
            -- 3: (-100000000000) ≤ aN ∧ aN ≤ 100000000000
            first | rfl | omega | exact cmpQ_no (.inl (by assumption)) | exact cmpQ_no (.inr (by assumption)) | exact cmpQ_yes (by assumption) (by assumption) | (have oa := okR_bd (show okR aN aD = true by assumption); have ob := okR_bd (show okR bN bD = true by assumption); omega) | (rw [← cmpQ_yes (by assumption) (by assumption)]; omega) | fail
          · intro c6
            -- 4: 1 ≤ aD ∧ aD ≤ 20000000
            first | rfl | omega | exact cmpQ_no (.inl (by assumption)) | exact cmpQ_no (.inr (by assumption)) | exact cmpQ_yes (by assumption) (by assumption) | (have oa := okR_bd (show okR aN aD = true by assumption); have ob := okR_bd (show okR bN bD = true by assumption); omega) | (rw [← cmpQ_yes (by assumption) (by assumption)]; omega) | fail
        · refine ⟨rfl, ?_⟩
          intro c7
          -- 5: (-100000000000) ≤ bN ∧ bN ≤ 100000000000
          first | rfl | omega | exact cmpQ_no (.inl (by assumption)) | exact cmpQ_no (.inr (by assumption)) | exact cmpQ_yes (by assumption) (by assumption) | (have oa := okR_bd (show okR aN aD = true by assumption); have ob := okR_bd (show okR bN bD = true by assumption); omega) | (rw [← cmpQ_yes (by assumption) (by assumption)]; omega) | fail
        · intro c8
          -- 6: 1 ≤ bD ∧ bD ≤ 20000000
          first | rfl | omega | exact cmpQ_no (.inl (by assumption)) | exact cmpQ_no (.inr (by assumption)) | exact cmpQ_yes (by assumption) (by assumption) | (have oa := okR_bd (show okR aN aD = true by assumption); have ob := okR_bd (show okR bN bD = true by assumption); omega) | (rw [← cmpQ_yes (by assumption) (by assumption)]; omega) | fail
        -- 7: (if aN * bD < bN * aD then -1 else if aN * bD > bN * aD then 1 else 0) = (cmpQ aN aD bN bD)
      · first | rfl | omega | exact cmpQ_no (.inl (by assumption)) | exact cmpQ_no (.inr (by assumption)) | exact cmpQ_yes (by assumption) (by assumption) | (have oa := okR_bd (show okR aN aD = true by assumption); have ob := okR_bd (show okR bN bD = true by assumption); omega) | (rw [← cmpQ_yes (by assumption) (by assumption)]; omega) | fail
def c_i_CompareRats (aN : Int) (aD : Int) (bN : Int) (bD : Int) : Cn Try.prog := ⟨_, _, _, _, _, i_CompareRats aN aD bN bD⟩
theorem l_FnAddRats (C : Int → Int) (n : Int) : RunsTo Try.prog 5 [(.sl 0 1 (.lit 0) (.v fun _ => n) 9223372036854775807)] [some ⟨5, 1, false, (.sym (.v fun _ => n) fun e => [(.int .u8 (.v fun _ => (C (e.den))) 0 255)])⟩] (.bool (.lit true)) [none] := by
  refine RunsTo.go env Try.func5 rfl Try.call5 rfl rfl (fun _ _ => (.ite .ret (.call (c_s_DrawAddRats C n) (.call (c_i_AddRats (f1N C n) (f1D C n) (f2N C n) (f2D C n)) (.call (c_s_AddRats (f1N C n) (f1D C n) (f2N C n) (f2D C n)) (.call (c_i_AddRats (f2N C n) (f2D C n) (f1N C n) (f1D C n)) (.ite (.ite (.ite (.ite .ret .ret) .ret) .ret) (.ite (.ite (.ite (.ite .ret .ret) .ret) .ret) (.ite (.ite (.ite (.ite .ret .ret) .ret) .ret) (.ite (.ite (.ite (.ite .ret .ret) .ret) .ret) (.ite (.ite (.ite (.ite .ret .ret) .ret) .ret) (.call (c_i_CompareRats (addN (f1N C n) (f1D C n) (f2N C n) (f2D C n)) (addD (f1N C n) (f1D C n) (f2N C n) (f2D C n)) (f1N C n) (f1D C n)) (.call (c_i_ValidRat (addN (f1N C n) (f1D C n) (f2N C n) (f2D C n)) (addD (f1N C n) (f1D C n) (f2N C n) (f2D C n))) (.ite (.ite .ret .ret) .ret)))))))))))))) (G := (0 ≤ n ∧ n ≤ 9223372036854775807) → (∀ e2 : E, ((0 ≤ e2.den ∧ e2.den < n) → (0 ≤ ((C (e2.den))) ∧ ((C (e2.den))) ≤ 255))) → ((n ≤ 1048576) → ((n = n) ∧ (((n ≤ n) ∧ (∀ e1 : E, ((0 ≤ e1.den ∧ e1.den < n) → (((C (e1.den))) = ((C (e1.den))))))) ∧ (((((f1N C n) = (f1N C n)) ∧ ((f1D C n) = (f1D C n))) ∧ (((f2N C n) = (f2N C n)) ∧ ((f2D C n) = (f2D C n)))) ∧ (((((f1N C n) = (f1N C n)) ∧ ((f1D C n) = (f1D C n))) ∧ (((f2N C n) = (f2N C n)) ∧ ((f2D C n) = (f2D C n)))) ∧ (((((f2N C n) = (f2N C n)) ∧ ((f2D C n) = (f2D C n))) ∧ (((f1N C n) = (f1N C n)) ∧ ((f1D C n) = (f1D C n)))) ∧ ((((((addOK (f1N C n) (f1D C n) (f2N C n) (f2D C n)) = true) ↔ ((addOK (f1N C n) (f1D C n) (f2N C n) (f2D C n)) = false))) → ((((((addOK (f1N C n) (f1D C n) (f2N C n) (f2D C n)) = true) ↔ ((addOK (f1N C n) (f1D C n) (f2N C n) (f2D C n)) = true))) → ((((((addN (f1N C n) (f1D C n) (f2N C n) (f2D C n)) = (addN (f1N C n) (f1D C n) (f2N C n) (f2D C n))) ∧ ((addD (f1N C n) (f1D C n) (f2N C n) (f2D C n)) = (addD (f1N C n) (f1D C n) (f2N C n) (f2D C n))))) → ((((((addOK (f2N C n) (f2D C n) (f1N C n) (f1D C n)) = true) ↔ ((addOK (f1N C n) (f1D C n) (f2N C n) (f2D C n)) = true))) → ((((addN (f2N C n) (f2D C n) (f1N C n) (f1D C n)) = (addN (f1N C n) (f1D C n) (f2N C n) (f2D C n))) ∧ ((addD (f2N C n) (f2D C n) (f1N C n) (f1D C n)) = (addD (f1N C n) (f1D C n) (f2N C n) (f2D C n)))))) ∧ (((((addOK (f2N C n) (f2D C n) (f1N C n) (f1D C n)) = true) ↔ ((addOK (f1N C n) (f1D C n) (f2N C n) (f2D C n)) = false))) → (False)))) ∧ (((((addN (f1N C n) (f1D C n) (f2N C n) (f2D C n)) ≠ (addN (f1N C n) (f1D C n) (f2N C n) (f2D C n))) ∨ ((addD (f1N C n) (f1D C n) (f2N C n) (f2D C n)) ≠ (addD (f1N C n) (f1D C n) (f2N C n) (f2D C n))))) → (False)))) ∧ (((((addOK (f1N C n) (f1D C n) (f2N C n) (f2D C n)) = true) ↔ ((addOK (f1N C n) (f1D C n) (f2N C n) (f2D C n)) = false))) → (False)))) ∧ (((((addOK (f1N C n) (f1D C n) (f2N C n) (f2D C n)) = true) ↔ ((addOK (f1N C n) (f1D C n) (f2N C n) (f2D C n)) = true))) → ((((((addN (f1N C n) (f1D C n) (f2N C n) (f2D C n)) ≠ (addN (f1N C n) (f1D C n) (f2N C n) (f2D C n))) ∨ ((addD (f1N C n) (f1D C n) (f2N C n) (f2D C n)) ≠ (addD (f1N C n) (f1D C n) (f2N C n) (f2D C n))))) → ((((((addOK (f1N C n) (f1D C n) (f2N C n) (f2D C n)) = true) ↔ ((addOK (f1N C n) (f1D C n) (f2N C n) (f2D C n)) = true))) → ((((((addN (f1N C n) (f1D C n) (f2N C n) (f2D C n)) = (addN (f1N C n) (f1D C n) (f2N C n) (f2D C n))) ∧ ((addD (f1N C n) (f1D C n) (f2N C n) (f2D C n)) = (addD (f1N C n) (f1D C n) (f2N C n) (f2D C n))))) → ((((((addOK (f2N C n) (f2D C n) (f1N C n) (f1D C n)) = true) ↔ ((addOK (f1N C n) (f1D C n) (f2N C n) (f2D C n)) = true))) → ((((addN (f2N C n) (f2D C n) (f1N C n) (f1D C n)) = (addN (f1N C n) (f1D C n) (f2N C n) (f2D C n))) ∧ ((addD (f2N C n) (f2D C n) (f1N C n) (f1D C n)) = (addD (f1N C n) (f1D C n) (f2N C n) (f2D C n)))))) ∧ (((((addOK (f2N C n) (f2D C n) (f1N C n) (f1D C n)) = true) ↔ ((addOK (f1N C n) (f1D C n) (f2N C n) (f2D C n)) = false))) → (False)))) ∧ (((((addN (f1N C n) (f1D C n) (f2N C n) (f2D C n)) ≠ (addN (f1N C n) (f1D C n) (f2N C n) (f2D C n))) ∨ ((addD (f1N C n) (f1D C n) (f2N C n) (f2D C n)) ≠ (addD (f1N C n) (f1D C n) (f2N C n) (f2D C n))))) → (False)))) ∧ (((((addOK (f1N C n) (f1D C n) (f2N C n) (f2D C n)) = true) ↔ ((addOK (f1N C n) (f1D C n) (f2N C n) (f2D C n)) = false))) → (False)))) ∧ (((((addN (f1N C n) (f1D C n) (f2N C n) (f2D C n)) = (addN (f1N C n) (f1D C n) (f2N C n) (f2D C n))) ∧ ((addD (f1N C n) (f1D C n) (f2N C n) (f2D C n)) = (addD (f1N C n) (f1D C n) (f2N C n) (f2D C n))))) → ((((((addOK (f2N C n) (f2D C n) (f1N C n) (f1D C n)) = true) ↔ ((addOK (f1N C n) (f1D C n) (f2N C n) (f2D C n)) = false))) → ((((((addOK (f1N C n) (f1D C n) (f2N C n) (f2D C n)) = true) ↔ ((addOK (f1N C n) (f1D C n) (f2N C n) (f2D C n)) = true))) → ((((((addN (f1N C n) (f1D C n) (f2N C n) (f2D C n)) = (addN (f1N C n) (f1D C n) (f2N C n) (f2D C n))) ∧ ((addD (f1N C n) (f1D C n) (f2N C n) (f2D C n)) = (addD (f1N C n) (f1D C n) (f2N C n) (f2D C n))))) → ((((((addOK (f2N C n) (f2D C n) (f1N C n) (f1D C n)) = true) ↔ ((addOK (f1N C n) (f1D C n) (f2N C n) (f2D C n)) = true))) → ((((addN (f2N C n) (f2D C n) (f1N C n) (f1D C n)) = (addN (f1N C n) (f1D C n) (f2N C n) (f2D C n))) ∧ ((addD (f2N C n) (f2D C n) (f1N C n) (f1D C n)) = (addD (f1N C n) (f1D C n) (f2N C n) (f2D C n)))))) ∧ (((((addOK (f2N C n) (f2D C n) (f1N C n) (f1D C n)) = true) ↔ ((addOK (f1N C n) (f1D C n) (f2N C n) (f2D C n)) = false))) → (False)))) ∧ (((((addN (f1N C n) (f1D C n) (f2N C n) (f2D C n)) ≠ (addN (f1N C n) (f1D C n) (f2N C n) (f2D C n))) ∨ ((addD (f1N C n) (f1D C n) (f2N C n) (f2D C n)) ≠ (addD (f1N C n) (f1D C n) (f2N C n) (f2D C n))))) → (False)))) ∧ (((((addOK (f1N C n) (f1D C n) (f2N C n) (f2D C n)) = true) ↔ ((addOK (f1N C n) (f1D C n) (f2N C n) (f2D C n)) = false))) → (False)))) ∧ (((((addOK (f2N C n) (f2D C n) (f1N C n) (f1D C n)) = true) ↔ ((addOK (f1N C n) (f1D C n) (f2N C n) (f2D C n)) = true))) → ((((((addN (f2N C n) (f2D C n) (f1N C n) (f1D C n)) ≠ (addN (f1N C n) (f1D C n) (f2N C n) (f2D C n))) ∨ ((addD (f2N C n) (f2D C n) (f1N C n) (f1D C n)) ≠ (addD (f1N C n) (f1D C n) (f2N C n) (f2D C n))))) → ((((((addOK (f1N C n) (f1D C n) (f2N C n) (f2D C n)) = true) ↔ ((addOK (f1N C n) (f1D C n) (f2N C n) (f2D C n)) = true))) → ((((((addN (f1N C n) (f1D C n) (f2N C n) (f2D C n)) = (addN (f1N C n) (f1D C n) (f2N C n) (f2D C n))) ∧ ((addD (f1N C n) (f1D C n) (f2N C n) (f2D C n)) = (addD (f1N C n) (f1D C n) (f2N C n) (f2D C n))))) → ((((((addOK (f2N C n) (f2D C n) (f1N C n) (f1D C n)) = true) ↔ ((addOK (f1N C n) (f1D C n) (f2N C n) (f2D C n)) = true))) → ((((addN (f2N C n) (f2D C n) (f1N C n) (f1D C n)) = (addN (f1N C n) (f1D C n) (f2N C n) (f2D C n))) ∧ ((addD (f2N C n) (f2D C n) (f1N C n) (f1D C n)) = (addD (f1N C n) (f1D C n) (f2N C n) (f2D C n)))))) ∧ (((((addOK (f2N C n) (f2D C n) (f1N C n) (f1D C n)) = true) ↔ ((addOK (f1N C n) (f1D C n) (f2N C n) (f2D C n)) = false))) → (False)))) ∧ (((((addN (f1N C n) (f1D C n) (f2N C n) (f2D C n)) ≠ (addN (f1N C n) (f1D C n) (f2N C n) (f2D C n))) ∨ ((addD (f1N C n) (f1D C n) (f2N C n) (f2D C n)) ≠ (addD (f1N C n) (f1D C n) (f2N C n) (f2D C n))))) → (False)))) ∧ (((((addOK (f1N C n) (f1D C n) (f2N C n) (f2D C n)) = true) ↔ ((addOK (f1N C n) (f1D C n) (f2N C n) (f2D C n)) = false))) → (False)))) ∧ (((((addN (f2N C n) (f2D C n) (f1N C n) (f1D C n)) = (addN (f1N C n) (f1D C n) (f2N C n) (f2D C n))) ∧ ((addD (f2N C n) (f2D C n) (f1N C n) (f1D C n)) = (addD (f1N C n) (f1D C n) (f2N C n) (f2D C n))))) → ((((addOK (f1N C n) (f1D C n) (f2N C n) (f2D C n)) = false) → ((((((addOK (f1N C n) (f1D C n) (f2N C n) (f2D C n)) = true) ↔ ((addOK (f1N C n) (f1D C n) (f2N C n) (f2D C n)) = true))) → ((((((addN (f1N C n) (f1D C n) (f2N C n) (f2D C n)) = (addN (f1N C n) (f1D C n) (f2N C n) (f2D C n))) ∧ ((addD (f1N C n) (f1D C n) (f2N C n) (f2D C n)) = (addD (f1N C n) (f1D C n) (f2N C n) (f2D C n))))) → ((((((addOK (f2N C n) (f2D C n) (f1N C n) (f1D C n)) = true) ↔ ((addOK (f1N C n) (f1D C n) (f2N C n) (f2D C n)) = true))) → ((((addN (f2N C n) (f2D C n) (f1N C n) (f1D C n)) = (addN (f1N C n) (f1D C n) (f2N C n) (f2D C n))) ∧ ((addD (f2N C n) (f2D C n) (f1N C n) (f1D C n)) = (addD (f1N C n) (f1D C n) (f2N C n) (f2D C n)))))) ∧ (((((addOK (f2N C n) (f2D C n) (f1N C n) (f1D C n)) = true) ↔ ((addOK (f1N C n) (f1D C n) (f2N C n) (f2D C n)) = false))) → (False)))) ∧ (((((addN (f1N C n) (f1D C n) (f2N C n) (f2D C n)) ≠ (addN (f1N C n) (f1D C n) (f2N C n) (f2D C n))) ∨ ((addD (f1N C n) (f1D C n) (f2N C n) (f2D C n)) ≠ (addD (f1N C n) (f1D C n) (f2N C n) (f2D C n))))) → (False)))) ∧ (((((addOK (f1N C n) (f1D C n) (f2N C n) (f2D C n)) = true) ↔ ((addOK (f1N C n) (f1D C n) (f2N C n) (f2D C n)) = false))) → (False)))) ∧ (((addOK (f1N C n) (f1D C n) (f2N C n) (f2D C n)) = true) → (((((addN (f1N C n) (f1D C n) (f2N C n) (f2D C n)) = (addN (f1N C n) (f1D C n) (f2N C n) (f2D C n))) ∧ ((addD (f1N C n) (f1D C n) (f2N C n) (f2D C n)) = (addD (f1N C n) (f1D C n) (f2N C n) (f2D C n)))) ∧ (((f1N C n) = (f1N C n)) ∧ ((f1D C n) = (f1D C n)))) ∧ ((((addN (f1N C n) (f1D C n) (f2N C n) (f2D C n)) = (addN (f1N C n) (f1D C n) (f2N C n) (f2D C n))) ∧ ((addD (f1N C n) (f1D C n) (f2N C n) (f2D C n)) = (addD (f1N C n) (f1D C n) (f2N C n) (f2D C n)))) ∧ ((((okR (addN (f1N C n) (f1D C n) (f2N C n) (f2D C n)) (addD (f1N C n) (f1D C n) (f2N C n) (f2D C n))) = true) → (((((0 < (cmpQ (addN (f1N C n) (f1D C n) (f2N C n) (f2D C n)) (addD (f1N C n) (f1D C n) (f2N C n) (f2D C n)) (f1N C n) (f1D C n))) ↔ (0 < (f2N C n)))) → ((((cmpQ (addN (f1N C n) (f1D C n) (f2N C n) (f2D C n)) (addD (f1N C n) (f1D C n) (f2N C n) (f2D C n)) (f1N C n) (f1D C n)) < 0) ↔ ((f2N C n) < 0)))) ∧ ((((0 < (cmpQ (addN (f1N C n) (f1D C n) (f2N C n) (f2D C n)) (addD (f1N C n) (f1D C n) (f2N C n) (f2D C n)) (f1N C n) (f1D C n))) ↔ ((f2N C n) ≤ 0))) → (False)))) ∧ (((okR (addN (f1N C n) (f1D C n) (f2N C n) (f2D C n)) (addD (f1N C n) (f1D C n) (f2N C n) (f2D C n))) = false) → (False)))))))))))))))))))))) (by kernel_rfl) ?_
  intro h1 h2
  intro c3
  refine ⟨rfl, ⟨Int.le_refl _, fun _ => fun _ => rfl⟩, ⟨⟨rfl, rfl⟩, ⟨rfl, rfl⟩⟩, ⟨⟨rfl, rfl⟩, ⟨rfl, rfl⟩⟩, ⟨⟨rfl, rfl⟩, ⟨rfl, rfl⟩⟩, ?_, ?_⟩
  · intro c4
    refine ⟨?_, ?_⟩
    · intro c5
      refine ⟨?_, ?_⟩
      · intro c6
        refine ⟨?_, ?_⟩
        · intro c7
          -- 1: (((addN (f2N C n) (f2D C n) (f1N C n) (f1D C n)) = (addN (f1N C n) (f1D C n) (f2N C n) (f2D C n))) ∧
          first | rfl | omega | (have h1 := add_comm_ok (f1N C n) (f1D C n) (f2N C n) (f2D C n); have h2 := add_comm_n (f1N C n) (f1D C n) (f2N C n) (f2D C n); have h3 := add_comm_d (f1N C n) (f1D C n) (f2N C n) (f2D C n); first | (simp only [h1, h2, h3] at *; done) | (simp only [h1, h2, h3] at *; omega) | (simp_all; done) | (have hc := cmp_add (show addOK (f1N C n) (f1D C n) (f2N C n) (f2D C n) = true by assumption); have hv := (add_facts (show addOK (f1N C n) (f1D C n) (f2N C n) (f2D C n) = true by assumption)).1; first | omega | exact hv | exact hc.1 | exact hc.2 | (simp_all; done) | (simp_all; omega)) | (exfalso; omega)) | fail
        · intro c8
          -- 2: False
          first | rfl | omega | (have h1 := add_comm_ok (f1N C n) (f1D C n) (f2N C n) (f2D C n); have h2 := add_comm_n (f1N C n) (f1D C n) (f2N C n) (f2D C n); have h3 := add_comm_d (f1N C n) (f1D C n) (f2N C n) (f2D C n); first | (simp only [h1, h2, h3] at *; done) | (simp only [h1, h2, h3] at *; omega) | (simp_all; done) | (have hc := cmp_add (show addOK (f1N C n) (f1D C n) (f2N C n) (f2D C n) = true by assumption); have hv := (add_facts (show addOK (f1N C n) (f1D C n) (f2N C n) (f2D C n) = true by assumption)).1; first | omega | exact hv | exact hc.1 | exact hc.2 | (simp_all; done) | (simp_all; omega)) | (exfalso; omega)) | fail
      · intro c9
        -- 3: False
        first | rfl | omega | (have h1 := add_comm_ok (f1N C n) (f1D C n) (f2N C n) (f2D C n); have h2 := add_comm_n (f1N C n) (f1D C n) (f2N C n) (f2D C n); have h3 := add_comm_d (f1N C n) (f1D C n) (f2N C n) (f2D C n); first | (simp only [h1, h2, h3] at *; done) | (simp only [h1, h2, h3] at *; omega) | (simp_all; done) | (have hc := cmp_add (show addOK (f1N C n) (f1D C n) (f2N C n) (f2D C n) = true by assumption); have hv := (add_facts (show addOK (f1N C n) (f1D C n) (f2N C n) (f2D C n) = true by assumption)).1; first | omega | exact hv | exact hc.1 | exact hc.2 | (simp_all; done) | (simp_all; omega)) | (exfalso; omega)) | fail
    · intro c10
      -- 4: False
      first | rfl | omega | (have h1 := add_comm_ok (f1N C n) (f1D C n) (f2N C n) (f2D C n); have h2 := add_comm_n (f1N C n) (f1D C n) (f2N C n) (f2D C n); have h3 := add_comm_d (f1N C n) (f1D C n) (f2N C n) (f2D C n); first | (simp only [h1, h2, h3] at *; done) | (simp only [h1, h2, h3] at *; omega) | (simp_all; done) | (have hc := cmp_add (show addOK (f1N C n) (f1D C n) (f2N C n) (f2D C n) = true by assumption); have hv := (add_facts (show addOK (f1N C n) (f1D C n) (f2N C n) (f2D C n) = true by assumption)).1; first | omega | exact hv | exact hc.1 | exact hc.2 | (simp_all; done) | (simp_all; omega)) | (exfalso; omega)) | fail
  · intro c11
    refine ⟨?_, ?_⟩
    · intro c12
      refine ⟨?_, ?_⟩
      · intro c13
        refine ⟨?_, ?_⟩
        · intro c14
          refine ⟨?_, ?_⟩
          · intro c15
            -- 5: (((addN (f2N C n) (f2D C n) (f1N C n) (f1D C n)) = (addN (f1N C n) (f1D C n) (f2N C n) (f2D C n))) ∧
            first | rfl | omega | (have h1 := add_comm_ok (f1N C n) (f1D C n) (f2N C n) (f2D C n); have h2 := add_comm_n (f1N C n) (f1D C n) (f2N C n) (f2D C n); have h3 := add_comm_d (f1N C n) (f1D C n) (f2N C n) (f2D C n); first | (simp only [h1, h2, h3] at *; done) | (simp only [h1, h2, h3] at *; omega) | (simp_all; done) | (have hc := cmp_add (show addOK (f1N C n) (f1D C n) (f2N C n) (f2D C n) = true by assumption); have hv := (add_facts (show addOK (f1N C n) (f1D C n) (f2N C n) (f2D C n) = true by assumption)).1; first | omega | exact hv | exact hc.1 | exact hc.2 | (simp_all; done) | (simp_all; omega)) | (exfalso; omega)) | fail
          · intro c16
            -- 6: False
            first | rfl | omega | (have h1 := add_comm_ok (f1N C n) (f1D C n) (f2N C n) (f2D C n); have h2 := add_comm_n (f1N C n) (f1D C n) (f2N C n) (f2D C n); have h3 := add_comm_d (f1N C n) (f1D C n) (f2N C n) (f2D C n); first | (simp only [h1, h2, h3] at *; done) | (simp only [h1, h2, h3] at *; omega) | (simp_all; done) | (have hc := cmp_add (show addOK (f1N C n) (f1D C n) (f2N C n) (f2D C n) = true by assumption); have hv := (add_facts (show addOK (f1N C n) (f1D C n) (f2N C n) (f2D C n) = true by assumption)).1; first | omega | exact hv | exact hc.1 | exact hc.2 | (simp_all; done) | (simp_all; omega)) | (exfalso; omega)) | fail
        · intro c17
          -- 7: False
          first | rfl | omega | (have h1 := add_comm_ok (f1N C n) (f1D C n) (f2N C n) (f2D C n); have h2 := add_comm_n (f1N C n) (f1D C n) (f2N C n) (f2D C n); have h3 := add_comm_d (f1N C n) (f1D C n) (f2N C n) (f2D C n); first | (simp only [h1, h2, h3] at *; done) | (simp only [h1, h2, h3] at *; omega) | (simp_all; done) | (have hc := cmp_add (show addOK (f1N C n) (f1D C n) (f2N C n) (f2D C n) = true by assumption); have hv := (add_facts (show addOK (f1N C n) (f1D C n) (f2N C n) (f2D C n) = true by assumption)).1; first | omega | exact hv | exact hc.1 | exact hc.2 | (simp_all; done) | (simp_all; omega)) | (exfalso; omega)) | fail
      · intro c18
        -- 8: False
        first | rfl | omega | (have h1 := add_comm_ok (f1N C n) (f1D C n) (f2N C n) (f2D C n); have h2 := add_comm_n (f1N C n) (f1D C n) (f2N C n) (f2D C n); have h3 := add_comm_d (f1N C n) (f1D C n) (f2N C n) (f2D C n); first | (simp only [h1, h2, h3] at *; done) | (simp only [h1, h2, h3] at *; omega) | (simp_all; done) | (have hc := cmp_add (show addOK (f1N C n) (f1D C n) (f2N C n) (f2D C n) = true by assumption); have hv := (add_facts (show addOK (f1N C n) (f1D C n) (f2N C n) (f2D C n) = true by assumption)).1; first | omega | exact hv | exact hc.1 | exact hc.2 | (simp_all; done) | (simp_all; omega)) | (exfalso; omega)) | fail
    · intro c19
      refine ⟨?_, ?_⟩
      · intro c20
        refine ⟨?_, ?_⟩
        · intro c21
          refine ⟨?_, ?_⟩
          · intro c22
            refine ⟨?_, ?_⟩
            · intro c23
              -- 9: (((addN (f2N C n) (f2D C n) (f1N C n) (f1D C n)) = (addN (f1N C n) (f1D C n) (f2N C n) (f2D C n))) ∧
              first | rfl | omega | (have h1 := add_comm_ok (f1N C n) (f1D C n) (f2N C n) (f2D C n); have h2 := add_comm_n (f1N C n) (f1D C n) (f2N C n) (f2D C n); have h3 := add_comm_d (f1N C n) (f1D C n) (f2N C n) (f2D C n); first | (simp only [h1, h2, h3] at *; done) | (simp only [h1, h2, h3] at *; omega) | (simp_all; done) | (have hc := cmp_add (show addOK (f1N C n) (f1D C n) (f2N C n) (f2D C n) = true by assumption); have hv := (add_facts (show addOK (f1N C n) (f1D C n) (f2N C n) (f2D C n) = true by assumption)).1; first | omega | exact hv | exact hc.1 | exact hc.2 | (simp_all; done) | (simp_all; omega)) | (exfalso; omega)) | fail
            · intro c24
              -- 10: False
              first | rfl | omega | (have h1 := add_comm_ok (f1N C n) (f1D C n) (f2N C n) (f2D C n); have h2 := add_comm_n (f1N C n) (f1D C n) (f2N C n) (f2D C n); have h3 := add_comm_d (f1N C n) (f1D C n) (f2N C n) (f2D C n); first | (simp only [h1, h2, h3] at *; done) | (simp only [h1, h2, h3] at *; omega) | (simp_all; done) | (have hc := cmp_add (show addOK (f1N C n) (f1D C n) (f2N C n) (f2D C n) = true by assumption); have hv := (add_facts (show addOK (f1N C n) (f1D C n) (f2N C n) (f2D C n) = true by assumption)).1; first | omega | exact hv | exact hc.1 | exact hc.2 | (simp_all; done) | (simp_all; omega)) | (exfalso; omega)) | fail
          · intro c25
            -- 11: False
            first | rfl | omega | (have h1 := add_comm_ok (f1N C n) (f1D C n) (f2N C n) (f2D C n); have h2 := add_comm_n (f1N C n) (f1D C n) (f2N C n) (f2D C n); have h3 := add_comm_d (f1N C n) (f1D C n) (f2N C n) (f2D C n); first | (simp only [h1, h2, h3] at *; done) | (simp only [h1, h2, h3] at *; omega) | (simp_all; done) | (have hc := cmp_add (show addOK (f1N C n) (f1D C n) (f2N C n) (f2D C n) = true by assumption); have hv := (add_facts (show addOK (f1N C n) (f1D C n) (f2N C n) (f2D C n) = true by assumption)).1; first | omega | exact hv | exact hc.1 | exact hc.2 | (simp_all; done) | (simp_all; omega)) | (exfalso; omega)) | fail
        · intro c26
          -- 12: False
          first | rfl | omega | (have h1 := add_comm_ok (f1N C n) (f1D C n) (f2N C n) (f2D C n); have h2 := add_comm_n (f1N C n) (f1D C n) (f2N C n) (f2D C n); have h3 := add_comm_d (f1N C n) (f1D C n) (f2N C n) (f2D C n); first | (simp only [h1, h2, h3] at *; done) | (simp only [h1, h2, h3] at *; omega) | (simp_all; done) | (have hc := cmp_add (show addOK (f1N C n) (f1D C n) (f2N C n) (f2D C n) = true by assumption); have hv := (add_facts (show addOK (f1N C n) (f1D C n) (f2N C n) (f2D C n) = true by assumption)).1; first | omega | exact hv | exact hc.1 | exact hc.2 | (simp_all; done) | (simp_all; omega)) | (exfalso; omega)) | fail
      · intro c27
        refine ⟨?_, ?_⟩
        · intro c28
          refine ⟨?_, ?_⟩
          · intro c29
            refine ⟨?_, ?_⟩
            · intro c30
              refine ⟨?_, ?_⟩
              · intro c31
                -- 13: (((addN (f2N C n) (f2D C n) (f1N C n) (f1D C n)) = (addN (f1N C n) (f1D C n) (f2N C n) (f2D C n))) ∧
                first | rfl | omega | (have h1 := add_comm_ok (f1N C n) (f1D C n) (f2N C n) (f2D C n); have h2 := add_comm_n (f1N C n) (f1D C n) (f2N C n) (f2D C n); have h3 := add_comm_d (f1N C n) (f1D C n) (f2N C n) (f2D C n); first | (simp only [h1, h2, h3] at *; done) | (simp only [h1, h2, h3] at *; omega) | (simp_all; done) | (have hc := cmp_add (show addOK (f1N C n) (f1D C n) (f2N C n) (f2D C n) = true by assumption); have hv := (add_facts (show addOK (f1N C n) (f1D C n) (f2N C n) (f2D C n) = true by assumption)).1; first | omega | exact hv | exact hc.1 | exact hc.2 | (simp_all; done) | (simp_all; omega)) | (exfalso; omega)) | fail
              · intro c32
                -- 14: False
                first | rfl | omega | (have h1 := add_comm_ok (f1N C n) (f1D C n) (f2N C n) (f2D C n); have h2 := add_comm_n (f1N C n) (f1D C n) (f2N C n) (f2D C n); have h3 := add_comm_d (f1N C n) (f1D C n) (f2N C n) (f2D C n); first | (simp only [h1, h2, h3] at *; done) | (simp only [h1, h2, h3] at *; omega) | (simp_all; done) | (have hc := cmp_add (show addOK (f1N C n) (f1D C n) (f2N C n) (f2D C n) = true by assumption); have hv := (add_facts (show addOK (f1N C n) (f1D C n) (f2N C n) (f2D C n) = true by assumption)).1; first | omega | exact hv | exact hc.1 | exact hc.2 | (simp_all; done) | (simp_all; omega)) | (exfalso; omega)) | fail
            · intro c33
              -- 15: False
              first | rfl | omega | (have h1 := add_comm_ok (f1N C n) (f1D C n) (f2N C n) (f2D C n); have h2 := add_comm_n (f1N C n) (f1D C n) (f2N C n) (f2D C n); have h3 := add_comm_d (f1N C n) (f1D C n) (f2N C n) (f2D C n); first | (simp only [h1, h2, h3] at *; done) | (simp only [h1, h2, h3] at *; omega) | (simp_all; done) | (have hc := cmp_add (show addOK (f1N C n) (f1D C n) (f2N C n) (f2D C n) = true by assumption); have hv := (add_facts (show addOK (f1N C n) (f1D C n) (f2N C n) (f2D C n) = true by assumption)).1; first | omega | exact hv | exact hc.1 | exact hc.2 | (simp_all; done) | (simp_all; omega)) | (exfalso; omega)) | fail
          · intro c34
            -- 16: False
            first | rfl | omega | (have h1 := add_comm_ok (f1N C n) (f1D C n) (f2N C n) (f2D C n); have h2 := add_comm_n (f1N C n) (f1D C n) (f2N C n) (f2D C n); have h3 := add_comm_d (f1N C n) (f1D C n) (f2N C n) (f2D C n); first | (simp only [h1, h2, h3] at *; done) | (simp only [h1, h2, h3] at *; omega) | (simp_all; done) | (have hc := cmp_add (show addOK (f1N C n) (f1D C n) (f2N C n) (f2D C n) = true by assumption); have hv := (add_facts (show addOK (f1N C n) (f1D C n) (f2N C n) (f2D C n) = true by assumption)).1; first | omega | exact hv | exact hc.1 | exact hc.2 | (simp_all; done) | (simp_all; omega)) | (exfalso; omega)) | fail
        · intro c35
          refine ⟨?_, ?_⟩
          · intro c36
            refine ⟨?_, ?_⟩
            · intro c37
              refine ⟨?_, ?_⟩
              · intro c38
                refine ⟨?_, ?_⟩
                · intro c39
                  -- 17: (((addN (f2N C n) (f2D C n) (f1N C n) (f1D C n)) = (addN (f1N C n) (f1D C n) (f2N C n) (f2D C n))) ∧
                  first | rfl | omega | (have h1 := add_comm_ok (f1N C n) (f1D C n) (f2N C n) (f2D C n); have h2 := add_comm_n (f1N C n) (f1D C n) (f2N C n) (f2D C n); have h3 := add_comm_d (f1N C n) (f1D C n) (f2N C n) (f2D C n); first | (simp only [h1, h2, h3] at *; done) | (simp only [h1, h2, h3] at *; omega) | (simp_all; done) | (have hc := cmp_add (show addOK (f1N C n) (f1D C n) (f2N C n) (f2D C n) = true by assumption); have hv := (add_facts (show addOK (f1N C n) (f1D C n) (f2N C n) (f2D C n) = true by assumption)).1; first | omega | exact hv | exact hc.1 | exact hc.2 | (simp_all; done) | (simp_all; omega)) | (exfalso; omega)) | fail
                · intro c40
                  -- 18: False
                  first | rfl | omega | (have h1 := add_comm_ok (f1N C n) (f1D C n) (f2N C n) (f2D C n); have h2 := add_comm_n (f1N C n) (f1D C n) (f2N C n) (f2D C n); have h3 := add_comm_d (f1N C n) (f1D C n) (f2N C n) (f2D C n); first | (simp only [h1, h2, h3] at *; done) | (simp only [h1, h2, h3] at *; omega) | (simp_all; done) | (have hc := cmp_add (show addOK (f1N C n) (f1D C n) (f2N C n) (f2D C n) = true by assumption); have hv := (add_facts (show addOK (f1N C n) (f1D C n) (f2N C n) (f2D C n) = true by assumption)).1; first | omega | exact hv | exact hc.1 | exact hc.2 | (simp_all; done) | (simp_all; omega)) | (exfalso; omega)) | fail
              · intro c41
                -- 19: False
                first | rfl | omega | (have h1 := add_comm_ok (f1N C n) (f1D C n) (f2N C n) (f2D C n); have h2 := add_comm_n (f1N C n) (f1D C n) (f2N C n) (f2D C n); have h3 := add_comm_d (f1N C n) (f1D C n) (f2N C n) (f2D C n); first | (simp only [h1, h2, h3] at *; done) | (simp only [h1, h2, h3] at *; omega) | (simp_all; done) | (have hc := cmp_add (show addOK (f1N C n) (f1D C n) (f2N C n) (f2D C n) = true by assumption); have hv := (add_facts (show addOK (f1N C n) (f1D C n) (f2N C n) (f2D C n) = true by assumption)).1; first | omega | exact hv | exact hc.1 | exact hc.2 | (simp_all; done) | (simp_all; omega)) | (exfalso; omega)) | fail
            · intro c42
              -- 20: False
              first | rfl | omega | (have h1 := add_comm_ok (f1N C n) (f1D C n) (f2N C n) (f2D C n); have h2 := add_comm_n (f1N C n) (f1D C n) (f2N C n) (f2D C n); have h3 := add_comm_d (f1N C n) (f1D C n) (f2N C n) (f2D C n); first | (simp only [h1, h2, h3] at *; done) | (simp only [h1, h2, h3] at *; omega) | (simp_all; done) | (have hc := cmp_add (show addOK (f1N C n) (f1D C n) (f2N C n) (f2D C n) = true by assumption); have hv := (add_facts (show addOK (f1N C n) (f1D C n) (f2N C n) (f2D C n) = true by assumption)).1; first | omega | exact hv | exact hc.1 | exact hc.2 | (simp_all; done) | (simp_all; omega)) | (exfalso; omega)) | fail
          · intro c43
            refine ⟨⟨⟨rfl, rfl⟩, ⟨rfl, rfl⟩⟩, ⟨rfl, rfl⟩, ?_, ?_⟩
            · intro c44
              refine ⟨?_, ?_⟩
              · intro c45
                -- 21: (((cmpQ (addN (f1N C n) (f1D C n) (f2N C n) (f2D C n)) (addD (f1N C n) (f1D C n) (f2N C n) (f2D C n)
                first | rfl | omega | (have h1 := add_comm_ok (f1N C n) (f1D C n) (f2N C n) (f2D C n); have h2 := add_comm_n (f1N C n) (f1D C n) (f2N C n) (f2D C n); have h3 := add_comm_d (f1N C n) (f1D C n) (f2N C n) (f2D C n); first | (simp only [h1, h2, h3] at *; done) | (simp only [h1, h2, h3] at *; omega) | (simp_all; done) | (have hc := cmp_add (show addOK (f1N C n) (f1D C n) (f2N C n) (f2D C n) = true by assumption); have hv := (add_facts (show addOK (f1N C n) (f1D C n) (f2N C n) (f2D C n) = true by assumption)).1; first | omega | exact hv | exact hc.1 | exact hc.2 | (simp_all; done) | (simp_all; omega)) | (exfalso; omega)) | fail
              · intro c46
                -- 22: False
                first | rfl | omega | (have h1 := add_comm_ok (f1N C n) (f1D C n) (f2N C n) (f2D C n); have h2 := add_comm_n (f1N C n) (f1D C n) (f2N C n) (f2D C n); have h3 := add_comm_d (f1N C n) (f1D C n) (f2N C n) (f2D C n); first | (simp only [h1, h2, h3] at *; done) | (simp only [h1, h2, h3] at *; omega) | (simp_all; done) | (have hc := cmp_add (show addOK (f1N C n) (f1D C n) (f2N C n) (f2D C n) = true by assumption); have hv := (add_facts (show addOK (f1N C n) (f1D C n) (f2N C n) (f2D C n) = true by assumption)).1; first | omega | exact hv | exact hc.1 | exact hc.2 | (simp_all; done) | (simp_all; omega)) | (exfalso; omega)) | fail
            · intro c47
              -- 23: False
              first | rfl | omega | (have h1 := add_comm_ok (f1N C n) (f1D C n) (f2N C n) (f2D C n); have h2 := add_comm_n (f1N C n) (f1D C n) (f2N C n) (f2D C n); have h3 := add_comm_d (f1N C n) (f1D C n) (f2N C n) (f2D C n); first | (simp only [h1, h2, h3] at *; done) | (simp only [h1, h2, h3] at *; omega) | (simp_all; done) | (have hc := cmp_add (show addOK (f1N C n) (f1D C n) (f2N C n) (f2D C n) = true by assumption); have hv := (add_facts (show addOK (f1N C n) (f1D C n) (f2N C n) (f2D C n) = true by assumption)).1; first | omega | exact hv | exact hc.1 | exact hc.2 | (simp_all; done) | (simp_all; omega)) | (exfalso; omega)) | fail
def c_l_FnAddRats (C : Int → Int) (n : Int) : Cn Try.prog := ⟨_, _, _, _, _, l_FnAddRats C n⟩
end Go.Proofs.Ytnombddkojljdaa
