/- Fractions: sums, products, comparisons. -/
import Derived.Test.YtndkhbilefljnaaRt2
import Derived.Test.YtndkhbilefljnaaOrd
namespace Go.Proofs.Ytndkhbilefljnaa
open Go.RowKit
set_option linter.unusedSimpArgs false
set_option linter.unusedVariables false

/-- Whether the sum exists. -/
def addOK (a0 a1 b0 b1 : Int) : Bool := okR a0 a1 && (okR b0 b1 && okR (redN (a0 * b1 + b0 * a1) (a1 * b1)) (redD (a0 * b1 + b0 * a1) (a1 * b1)))
def addN (a0 a1 b0 b1 : Int) : Int := orZ (addOK a0 a1 b0 b1) (redN (a0 * b1 + b0 * a1) (a1 * b1))
def addD (a0 a1 b0 b1 : Int) : Int := orZ (addOK a0 a1 b0 b1) (redD (a0 * b1 + b0 * a1) (a1 * b1))

set_option maxHeartbeats 1000000 in
theorem iAddRats_any (a0 a1 b0 b1 : Int) (w : World) : Calls Try.prog 21 #[.agg #[.int .i64 a0, .int .i64 a1], .agg #[.int .i64 b0, .int .i64 b1]] w fun e w' => e = .returned (.tuple #[.agg #[.int .i64 (addN a0 a1 b0 b1), .int .i64 (addD a0 a1 b0 b1)], .bool (addOK a0 a1 b0 b1)]) ∧ w.grownBy w' none := by
  unfold addN addD
  generalize hok : addOK a0 a1 b0 b1 = ok
  unfold addOK at hok
  by_cases h1 : okR a0 a1 = true
  · by_cases h2 : okR b0 b1 = true
    · rw [h1, h2, Bool.true_and, Bool.true_and] at hok
      obtain ⟨⟨p1, p2⟩, ⟨p3, p4⟩, _⟩ := okR_bd h1
      obtain ⟨⟨p5, p6⟩, ⟨p7, p8⟩, _⟩ := okR_bd h2
      obtain ⟨mb1a, mb1b⟩ := mul_bd (a0) (b1) (100000000000) (20000000) (by omega) (by omega) (by omega) (by omega)
      obtain ⟨mb2a, mb2b⟩ := mul_bd (b0) (a1) (100000000000) (20000000) (by omega) (by omega) (by omega) (by omega)
      obtain ⟨mb3a, mb3b⟩ := mul_bd (a1) (b1) (20000000) (20000000) (by omega) (by omega) (by omega) (by omega)
      have hd : 0 < a1 * b1 := Int.mul_pos (by omega) (by omega)
      have HR := hide fun W => reduced_any (a0 * b1 + b0 * a1) (a1 * b1) W (by omega) (by omega) (by omega) (by omega) (by omega)
      have HM := hide fun W => made_any (redN (a0 * b1 + b0 * a1) (a1 * b1)) (redD (a0 * b1 + b0 * a1) (a1 * b1)) W
      rw [hok] at HM
      have H1 := hide fun W => irvalid_t h1 W
      have H2 := hide fun W => irvalid_t h2 W
      generalize redN (a0 * b1 + b0 * a1) (a1 * b1) = n at *
      generalize redD (a0 * b1 + b0 * a1) (a1 * b1) = d at *
      clear h1 h2 hok
      go_enter Try.func21, Try.ntmps21
      go_wp2_with fail
      first | refine (ext_call (H1.out _)).mono ?_ | refine (to_ex (H1.out _)).mono ?_
      rintro e w' ⟨rfl, xx, rfl⟩
      go_wp2_with fail
      first | refine (ext_call (H2.out _)).mono ?_ | refine (to_ex (H2.out _)).mono ?_
      rintro e w' ⟨rfl, xx, rfl⟩
      go_wp2_with fail
      first | refine (ext_call (HR.out _)).mono ?_ | refine (to_ex (HR.out _)).mono ?_
      rintro e w' ⟨rfl, xx, rfl⟩
      go_wp2_with fail
      first | refine (ext_call (HM.out _)).mono ?_ | refine (to_ex (HM.out _)).mono ?_
      rintro e w' ⟨rfl, xx, rfl⟩
      go_wp2_with fail
      refine bodyPost_ret (v := .tuple #[.agg #[.int .i64 (orZ ok n), .int .i64 (orZ ok d)], .bool ok]) (by simp [results, Try.results21, go_sem]) rfl ?_
      exact ⟨rfl, (by repeat (first | with_reducible assumption | with_reducible exact gr_refl _ _ | with_reducible refine kp_alloc ?_ _ | ((with_reducible refine kp_set ?_ ?_ _); rotate_left; focus (dsimp only; omega)) | with_reducible refine kp_ex ?_ _ | with_reducible refine kp_drewN ?_ _ | with_reducible refine kp_drew ?_ | with_reducible refine kp_exr ?_ _ | with_reducible refine kp_exr' ?_ _))⟩
    · rw [h1, Bool.eq_false_iff.2 h2] at hok
      simp at hok
      have H1 := hide fun W => irvalid_t h1 W
      have H2 := hide fun W => irvalid_f h2 W
      subst hok
      clear h1 h2
      go_enter Try.func21, Try.ntmps21
      go_wp2_with fail
      first | refine (ext_call (H1.out _)).mono ?_ | refine (to_ex (H1.out _)).mono ?_
      rintro e w' ⟨rfl, xx, rfl⟩
      go_wp2_with fail
      first | refine (ext_call (H2.out _)).mono ?_ | refine (to_ex (H2.out _)).mono ?_
      rintro e w' ⟨rfl, xx, rfl⟩
      go_wp2_with fail
      refine bodyPost_ret (v := .tuple #[.agg #[.int .i64 0, .int .i64 0], .bool false]) (by simp [results, Try.results21, go_sem]) rfl ?_
      exact ⟨by simp [orZ], (by repeat (first | with_reducible assumption | with_reducible exact gr_refl _ _ | with_reducible refine kp_alloc ?_ _ | ((with_reducible refine kp_set ?_ ?_ _); rotate_left; focus (dsimp only; omega)) | with_reducible refine kp_ex ?_ _ | with_reducible refine kp_drewN ?_ _ | with_reducible refine kp_drew ?_ | with_reducible refine kp_exr ?_ _ | with_reducible refine kp_exr' ?_ _))⟩
  · rw [Bool.eq_false_iff.2 h1] at hok
    simp at hok
    have H1 := hide fun W => irvalid_f h1 W
    subst hok
    clear h1
    go_enter Try.func21, Try.ntmps21
    go_wp2_with fail
    first | refine (ext_call (H1.out _)).mono ?_ | refine (to_ex (H1.out _)).mono ?_
    rintro e w' ⟨rfl, xx, rfl⟩
    go_wp2_with fail
    refine bodyPost_ret (v := .tuple #[.agg #[.int .i64 0, .int .i64 0], .bool false]) (by simp [results, Try.results21, go_sem]) rfl ?_
    exact ⟨by simp [orZ], (by repeat (first | with_reducible assumption | with_reducible exact gr_refl _ _ | with_reducible refine kp_alloc ?_ _ | ((with_reducible refine kp_set ?_ ?_ _); rotate_left; focus (dsimp only; omega)) | with_reducible refine kp_ex ?_ _ | with_reducible refine kp_drewN ?_ _ | with_reducible refine kp_drew ?_ | with_reducible refine kp_exr ?_ _ | with_reducible refine kp_exr' ?_ _))⟩

set_option maxHeartbeats 1000000 in
theorem sAddRats_any (a0 a1 b0 b1 : Int) (w : World) : Calls Try.prog 61 #[.agg #[.int .i64 a0, .int .i64 a1], .agg #[.int .i64 b0, .int .i64 b1]] w fun e w' => e = .returned (.tuple #[.agg #[.int .i64 (addN a0 a1 b0 b1), .int .i64 (addD a0 a1 b0 b1)], .bool (addOK a0 a1 b0 b1)]) ∧ w.grownBy w' none := by
  unfold addN addD
  generalize hok : addOK a0 a1 b0 b1 = ok
  unfold addOK at hok
  by_cases h1 : okR a0 a1 = true
  · by_cases h2 : okR b0 b1 = true
    · rw [h1, h2, Bool.true_and, Bool.true_and] at hok
      obtain ⟨⟨p1, p2⟩, ⟨p3, p4⟩, _⟩ := okR_bd h1
      obtain ⟨⟨p5, p6⟩, ⟨p7, p8⟩, _⟩ := okR_bd h2
      obtain ⟨mb4a, mb4b⟩ := mul_bd (a0) (b1) (100000000000) (20000000) (by omega) (by omega) (by omega) (by omega)
      obtain ⟨mb5a, mb5b⟩ := mul_bd (b0) (a1) (100000000000) (20000000) (by omega) (by omega) (by omega) (by omega)
      obtain ⟨mb6a, mb6b⟩ := mul_bd (a1) (b1) (20000000) (20000000) (by omega) (by omega) (by omega) (by omega)
      have hd : 0 < a1 * b1 := Int.mul_pos (by omega) (by omega)
      have HR := hide fun W => ratio_any (a0 * b1 + b0 * a1) (a1 * b1) W (by omega) (by omega) (by omega) (by omega) (by omega)
      have HM := hide fun W => checked_any (redN (a0 * b1 + b0 * a1) (a1 * b1)) (redD (a0 * b1 + b0 * a1) (a1 * b1)) W
      rw [hok] at HM
      have H1 := hide fun W => srvalid_t h1 W
      have H2 := hide fun W => srvalid_t h2 W
      generalize redN (a0 * b1 + b0 * a1) (a1 * b1) = n at *
      generalize redD (a0 * b1 + b0 * a1) (a1 * b1) = d at *
      clear h1 h2 hok
      go_enter Try.func61, Try.ntmps61
      go_wp2_with fail
      first | refine (ext_call (H1.out _)).mono ?_ | refine (to_ex (H1.out _)).mono ?_
      rintro e w' ⟨rfl, xx, rfl⟩
      go_wp2_with fail
      first | refine (ext_call (H2.out _)).mono ?_ | refine (to_ex (H2.out _)).mono ?_
      rintro e w' ⟨rfl, xx, rfl⟩
      go_wp2_with fail
      first | refine (ext_call (HR.out _)).mono ?_ | refine (to_ex (HR.out _)).mono ?_
      rintro e w' ⟨rfl, xx, rfl⟩
      go_wp2_with fail
      first | refine (ext_call (HM.out _)).mono ?_ | refine (to_ex (HM.out _)).mono ?_
      rintro e w' ⟨rfl, xx, rfl⟩
      go_wp2_with fail
      refine bodyPost_ret (v := .tuple #[.agg #[.int .i64 (orZ ok n), .int .i64 (orZ ok d)], .bool ok]) (by simp [results, Try.results61, go_sem]) rfl ?_
      exact ⟨rfl, (by repeat (first | with_reducible assumption | with_reducible exact gr_refl _ _ | with_reducible refine kp_alloc ?_ _ | ((with_reducible refine kp_set ?_ ?_ _); rotate_left; focus (dsimp only; omega)) | with_reducible refine kp_ex ?_ _ | with_reducible refine kp_drewN ?_ _ | with_reducible refine kp_drew ?_ | with_reducible refine kp_exr ?_ _ | with_reducible refine kp_exr' ?_ _))⟩
    · rw [h1, Bool.eq_false_iff.2 h2] at hok
      simp at hok
      have H1 := hide fun W => srvalid_t h1 W
      have H2 := hide fun W => srvalid_f h2 W
      subst hok
      clear h1 h2
      go_enter Try.func61, Try.ntmps61
      go_wp2_with fail
      first | refine (ext_call (H1.out _)).mono ?_ | refine (to_ex (H1.out _)).mono ?_
      rintro e w' ⟨rfl, xx, rfl⟩
      go_wp2_with fail
      first | refine (ext_call (H2.out _)).mono ?_ | refine (to_ex (H2.out _)).mono ?_
      rintro e w' ⟨rfl, xx, rfl⟩
      go_wp2_with fail
      refine bodyPost_ret (v := .tuple #[.agg #[.int .i64 0, .int .i64 0], .bool false]) (by simp [results, Try.results61, go_sem]) rfl ?_
      exact ⟨by simp [orZ], (by repeat (first | with_reducible assumption | with_reducible exact gr_refl _ _ | with_reducible refine kp_alloc ?_ _ | ((with_reducible refine kp_set ?_ ?_ _); rotate_left; focus (dsimp only; omega)) | with_reducible refine kp_ex ?_ _ | with_reducible refine kp_drewN ?_ _ | with_reducible refine kp_drew ?_ | with_reducible refine kp_exr ?_ _ | with_reducible refine kp_exr' ?_ _))⟩
  · rw [Bool.eq_false_iff.2 h1] at hok
    simp at hok
    have H1 := hide fun W => srvalid_f h1 W
    subst hok
    clear h1
    go_enter Try.func61, Try.ntmps61
    go_wp2_with fail
    first | refine (ext_call (H1.out _)).mono ?_ | refine (to_ex (H1.out _)).mono ?_
    rintro e w' ⟨rfl, xx, rfl⟩
    go_wp2_with fail
    refine bodyPost_ret (v := .tuple #[.agg #[.int .i64 0, .int .i64 0], .bool false]) (by simp [results, Try.results61, go_sem]) rfl ?_
    exact ⟨by simp [orZ], (by repeat (first | with_reducible assumption | with_reducible exact gr_refl _ _ | with_reducible refine kp_alloc ?_ _ | ((with_reducible refine kp_set ?_ ?_ _); rotate_left; focus (dsimp only; omega)) | with_reducible refine kp_ex ?_ _ | with_reducible refine kp_drewN ?_ _ | with_reducible refine kp_drew ?_ | with_reducible refine kp_exr ?_ _ | with_reducible refine kp_exr' ?_ _))⟩

/-- What CompareRats returns. -/
def cmpR (a0 a1 b0 b1 : Int) : Int := if okR a0 a1 = true then (if okR b0 b1 = true then cmpI (a0 * b1) (b0 * a1) else 2) else 2
theorem rcompare_any (a0 a1 b0 b1 : Int) (w : World) (p1 : -100000000000 ≤ a0) (p2 : a0 ≤ 100000000000) (p3 : 1 ≤ a1) (p4 : a1 ≤ 20000000) (p5 : -100000000000 ≤ b0) (p6 : b0 ≤ 100000000000) (p7 : 1 ≤ b1) (p8 : b1 ≤ 20000000) :
    Calls Try.prog 118 #[.agg #[.int .i64 a0, .int .i64 a1], .agg #[.int .i64 b0, .int .i64 b1]] w fun e w' => e = .returned (.int .i64 (cmpI (a0 * b1) (b0 * a1))) ∧ w.grownBy w' none := by
  obtain ⟨mb7a, mb7b⟩ := mul_bd (a0) (b1) (100000000000) (20000000) (by omega) (by omega) (by omega) (by omega)
  obtain ⟨mb8a, mb8b⟩ := mul_bd (b0) (a1) (100000000000) (20000000) (by omega) (by omega) (by omega) (by omega)
  go_enter Try.func118, Try.ntmps118
  go_wp2_with fail
  first | refine (ext_call (cmp_any _ _ _)).mono ?_ | refine (to_ex (cmp_any _ _ _)).mono ?_
  rintro e w' ⟨rfl, xx, rfl⟩
  go_wp2_with fail
  go_ret
  exact ⟨rfl, (by repeat (first | with_reducible assumption | with_reducible exact gr_refl _ _ | with_reducible refine kp_alloc ?_ _ | ((with_reducible refine kp_set ?_ ?_ _); rotate_left; focus (dsimp only; omega)) | with_reducible refine kp_ex ?_ _ | with_reducible refine kp_drewN ?_ _ | with_reducible refine kp_drew ?_ | with_reducible refine kp_exr ?_ _ | with_reducible refine kp_exr' ?_ _))⟩
theorem iCompareRats_any (a0 a1 b0 b1 : Int) (w : World) : Calls Try.prog 62 #[.agg #[.int .i64 a0, .int .i64 a1], .agg #[.int .i64 b0, .int .i64 b1]] w fun e w' => e = .returned (.int .i64 (cmpR a0 a1 b0 b1)) ∧ w.grownBy w' none := by
  unfold cmpR
  by_cases h1 : okR a0 a1 = true
  · by_cases h2 : okR b0 b1 = true
    · rw [if_pos h1, if_pos h2]
      obtain ⟨⟨p1, p2⟩, ⟨p3, p4⟩, _⟩ := okR_bd h1
      obtain ⟨⟨p5, p6⟩, ⟨p7, p8⟩, _⟩ := okR_bd h2
      have H1 := hide fun W => irvalid_t h1 W
      have H2 := hide fun W => irvalid_t h2 W
      have HC := hide fun W => rcompare_any a0 a1 b0 b1 W p1 p2 p3 p4 p5 p6 p7 p8
      clear h1 h2
      go_enter Try.func62, Try.ntmps62
      go_wp2_with fail
      first | refine (ext_call (H1.out _)).mono ?_ | refine (to_ex (H1.out _)).mono ?_
      rintro e w' ⟨rfl, xx, rfl⟩
      go_wp2_with fail
      first | refine (ext_call (H2.out _)).mono ?_ | refine (to_ex (H2.out _)).mono ?_
      rintro e w' ⟨rfl, xx, rfl⟩
      go_wp2_with fail
      first | refine (ext_call (HC.out _)).mono ?_ | refine (to_ex (HC.out _)).mono ?_
      rintro e w' ⟨rfl, xx, rfl⟩
      go_wp2_with fail
      go_ret
      exact ⟨rfl, (by repeat (first | with_reducible assumption | with_reducible exact gr_refl _ _ | with_reducible refine kp_alloc ?_ _ | ((with_reducible refine kp_set ?_ ?_ _); rotate_left; focus (dsimp only; omega)) | with_reducible refine kp_ex ?_ _ | with_reducible refine kp_drewN ?_ _ | with_reducible refine kp_drew ?_ | with_reducible refine kp_exr ?_ _ | with_reducible refine kp_exr' ?_ _))⟩
    · rw [if_pos h1, if_neg h2]
      have H1 := hide fun W => irvalid_t h1 W
      have H2 := hide fun W => irvalid_f h2 W
      clear h1 h2
      go_enter Try.func62, Try.ntmps62
      go_wp2_with fail
      first | refine (ext_call (H1.out _)).mono ?_ | refine (to_ex (H1.out _)).mono ?_
      rintro e w' ⟨rfl, xx, rfl⟩
      go_wp2_with fail
      first | refine (ext_call (H2.out _)).mono ?_ | refine (to_ex (H2.out _)).mono ?_
      rintro e w' ⟨rfl, xx, rfl⟩
      go_wp2_with fail
      go_ret
      exact ⟨rfl, (by repeat (first | with_reducible assumption | with_reducible exact gr_refl _ _ | with_reducible refine kp_alloc ?_ _ | ((with_reducible refine kp_set ?_ ?_ _); rotate_left; focus (dsimp only; omega)) | with_reducible refine kp_ex ?_ _ | with_reducible refine kp_drewN ?_ _ | with_reducible refine kp_drew ?_ | with_reducible refine kp_exr ?_ _ | with_reducible refine kp_exr' ?_ _))⟩
  · rw [if_neg h1]
    have H1 := hide fun W => irvalid_f h1 W
    clear h1
    go_enter Try.func62, Try.ntmps62
    go_wp2_with fail
    first | refine (ext_call (H1.out _)).mono ?_ | refine (to_ex (H1.out _)).mono ?_
    rintro e w' ⟨rfl, xx, rfl⟩
    go_wp2_with fail
    go_ret
    exact ⟨rfl, (by repeat (first | with_reducible assumption | with_reducible exact gr_refl _ _ | with_reducible refine kp_alloc ?_ _ | ((with_reducible refine kp_set ?_ ?_ _); rotate_left; focus (dsimp only; omega)) | with_reducible refine kp_ex ?_ _ | with_reducible refine kp_drewN ?_ _ | with_reducible refine kp_drew ?_ | with_reducible refine kp_exr ?_ _ | with_reducible refine kp_exr' ?_ _))⟩
theorem iValidRat_any (n d : Int) (w : World) : Calls Try.prog 19 #[.agg #[.int .i64 n, .int .i64 d]] w fun e w' => e = .returned (.bool (okR n d)) ∧ w.grownBy w' none := by
  go_enter Try.func19, Try.ntmps19
  go_wp2_with fail
  first | refine (ext_call (irvalid_any n d _)).mono ?_ | refine (to_ex (irvalid_any n d _)).mono ?_
  rintro e w' ⟨rfl, xx, rfl⟩
  go_wp2_with fail
  go_ret
  exact ⟨rfl, (by repeat (first | with_reducible assumption | with_reducible exact gr_refl _ _ | with_reducible refine kp_alloc ?_ _ | ((with_reducible refine kp_set ?_ ?_ _); rotate_left; focus (dsimp only; omega)) | with_reducible refine kp_ex ?_ _ | with_reducible refine kp_drewN ?_ _ | with_reducible refine kp_drew ?_ | with_reducible refine kp_exr ?_ _ | with_reducible refine kp_exr' ?_ _))⟩
theorem size_any (a : Int) (w : World) (h1 : -4000000000000000000 ≤ a) (h2 : a ≤ 4000000000000000000) : Calls Try.prog 20 #[.int .i64 a] w fun e w' => e = .returned (.int .i64 (a.natAbs : Int)) ∧ w.grownBy w' none := by
  go_enter Try.func20, Try.ntmps20
  go_wp2
  all_goals (go_ret; exact ⟨ret_int (by omega), (by repeat (first | with_reducible assumption | with_reducible exact gr_refl _ _ | with_reducible refine kp_alloc ?_ _ | ((with_reducible refine kp_set ?_ ?_ _); rotate_left; focus (dsimp only; omega)) | with_reducible refine kp_ex ?_ _ | with_reducible refine kp_drewN ?_ _ | with_reducible refine kp_drew ?_ | with_reducible refine kp_exr ?_ _ | with_reducible refine kp_exr' ?_ _))⟩)

/-- The product would be too large. -/
def mulBad (x y : Int) : Bool := decide (x ≠ 0) && decide (100000000000 / (x.natAbs : Int) < (y.natAbs : Int))
def mulOK (a0 a1 b0 b1 : Int) : Bool := okR a0 a1 && (okR b0 b1 && (!mulBad (redN a0 b1) (redN b0 a1) && okR (redN a0 b1 * redN b0 a1) (redD a0 b1 * redD b0 a1)))
def mulN (a0 a1 b0 b1 : Int) : Int := orZ (mulOK a0 a1 b0 b1) (redN a0 b1 * redN b0 a1)
def mulD (a0 a1 b0 b1 : Int) : Int := orZ (mulOK a0 a1 b0 b1) (redD a0 b1 * redD b0 a1)
theorem redN_bd (a b : Int) (M : Int) (hb : 1 ≤ b) (h1 : -M ≤ a) (h2 : a ≤ M) : -M ≤ redN a b ∧ redN a b ≤ M := by
  unfold redN
  rw [if_neg (by omega)]
  exact ediv_bd _ _ _ (gcdI_pos _ _ (by omega)) h1 h2
theorem redD_bd (a b : Int) (M : Int) (hb : 1 ≤ b) (h2 : b ≤ M) : 1 ≤ redD a b ∧ redD a b ≤ M := by
  unfold redD
  rw [if_neg (by omega)]
  have hp := gcdI_pos a b (by omega)
  have hd := gcdI_right a b
  refine ⟨?_, (ediv_bd _ _ _ hp (by omega) h2).2⟩
  rw [Int.le_ediv_iff_mul_le (by omega)]
  have := Int.le_of_dvd (by omega) hd
  omega
theorem not_bad (x y : Int) (h : mulBad x y = false) (_hy : -100000000000 ≤ y ∧ y ≤ 100000000000) : -100000000000 ≤ x * y ∧ x * y ≤ 100000000000 := by
  unfold mulBad at h
  by_cases hx : x = 0
  · subst hx; simp
  · simp only [ne_eq, hx, not_false_eq_true, decide_true, Bool.true_and, decide_eq_false_iff_not, Int.not_lt] at h
    have hx' : 0 < (x.natAbs : Int) := by omega
    have := (Int.le_ediv_iff_mul_le hx').1 h
    have e : ((x * y).natAbs : Int) = (y.natAbs : Int) * (x.natAbs : Int) := by rw [Int.natAbs_mul, Int.natCast_mul]; exact Int.mul_comm _ _
    omega
end Go.Proofs.Ytndkhbilefljnaa
