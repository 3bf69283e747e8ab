/- Fractions: the program's helpers. -/
import Derived.Test.YtndkhbilefljnaaP2
import Derived.LoopTactic
import Derived.Deep.RegionHeld3
namespace Go.Proofs.Ytndkhbilefljnaa
open Go.RowKit
set_option linter.unusedSimpArgs false
set_option linter.unusedVariables false

/-- The greatest common divisor. -/
def gcdI (a b : Int) : Int := (Int.gcd a b : Nat)
theorem gcdI_step (a b : Int) : gcdI b (a.tmod b) = gcdI a b := by
  unfold gcdI
  congr 1
  show Nat.gcd b.natAbs (a.tmod b).natAbs = Nat.gcd a.natAbs b.natAbs
  rw [Int.natAbs_tmod, Nat.gcd_comm a.natAbs b.natAbs, Nat.gcd_rec b.natAbs a.natAbs, Nat.gcd_comm]
theorem gcdI_zero (a : Int) : gcdI a 0 = (a.natAbs : Int) := by unfold gcdI; simp [Int.gcd]
theorem tmod_bd (a b : Int) (hb : b ≠ 0) : (a.tmod b).natAbs < b.natAbs := by rw [Int.natAbs_tmod]; exact Nat.mod_lt _ (by omega)

theorem bd_of_natAbs (r y M : Int) (h : r.natAbs < y.natAbs) (h1 : -M ≤ y) (h2 : y ≤ M) : -M ≤ r ∧ r ≤ M := by omega
theorem abs_any (a : Int) (w : World) (h1 : -4000000000000000000 ≤ a) (h2 : a ≤ 4000000000000000000) : Calls Try.prog 71 #[.int .i64 a] w fun e w' => e = .returned (.int .i64 (a.natAbs : Int)) ∧ w.grownBy w' none := by
  go_enter Try.func71, Try.ntmps71
  go_wp2
  all_goals (go_ret; exact ⟨ret_int (by omega), (by repeat (first | with_reducible assumption | with_reducible exact gr_refl _ _ | with_reducible refine kp_alloc ?_ _ | ((with_reducible refine kp_set ?_ ?_ _); rotate_left; focus (dsimp only; omega)) | with_reducible refine kp_ex ?_ _ | with_reducible refine kp_drewN ?_ _ | with_reducible refine kp_drew ?_ | with_reducible refine kp_exr ?_ _ | with_reducible refine kp_exr' ?_ _))⟩)

def RelG (w : World) (g : Int) (a b : Value) (wr : World) : Prop := ∃ x y : Int, a = .int .i64 x ∧ b = .int .i64 y ∧ -4000000000000000000 ≤ x ∧ x ≤ 4000000000000000000 ∧ -4000000000000000000 ≤ y ∧ y ≤ 4000000000000000000 ∧ gcdI x y = g ∧ w.grownBy wr none

set_option maxHeartbeats 1000000 in
theorem divisor_any (a b : Int) (w : World) (h1 : -4000000000000000000 ≤ a) (h2 : a ≤ 4000000000000000000) (h3 : -4000000000000000000 ≤ b) (h4 : b ≤ 4000000000000000000) :
    Calls Try.prog 127 #[.int .i64 a, .int .i64 b] w fun e w' => e = .returned (.int .i64 (gcdI a b)) ∧ w.grownBy w' none := by
  generalize hg : gcdI a b = g
  have start : RelG w g (.int .i64 a) (.int .i64 b) w := ⟨a, b, rfl, rfl, h1, h2, h3, h4, hg, gr_refl w none⟩
  clear hg
  go_enter Try.func127, Try.ntmps127
  go_wp2_with fail
  go_loopw [0, 1] (fun u v wr => RelG w g u v wr) (fun _ v _ => (intOf v).natAbs)
  case atStart => exact start
  case round =>
    clear start h1 h2 h3 h4
    obtain ⟨x, y, rfl, rfl, h1, h2, h3, h4, hg, hk⟩ := hrel
    have HG := hide hg
    clear hg
    by_cases h0 : y = 0
    · subst h0
      go_wp2_with fail
      refine (abs_any x _ h1 h2).mono ?_
      rintro e w1 ⟨rfl, hk1⟩
      go_wp2_with fail
      go_ret
      exact ⟨ret_int (by rw [← HG.out, gcdI_zero]), kp_trans hk hk1⟩
    · have h0' : (y == 0) = false := by simp [h0]
      have h0'' : (y != 0) = true := by simp [h0]
      have hb := tmod_bd x y h0
      obtain ⟨hb1, hb2⟩ := bd_of_natAbs _ _ _ hb h3 h4
      have hw : IntKind.i64.wrap (x.tmod y) = x.tmod y := IntWalk.i64_in _ ⟨Int.le_trans (by decide) hb1, Int.le_trans hb2 (by decide)⟩
      go_wp2_with fail
      go_quiet (fail)
      go_wp2_with fail
      go_roundw
      case rel => exact ⟨y, x.tmod y, rfl, rfl, h3, h4, hb1, hb2, by rw [gcdI_step]; exact HG.out, kp_drewN hk _⟩
      case measure => exact hb

theorem gcdI_pos (a b : Int) (hb : b ≠ 0) : 1 ≤ gcdI a b := by
  unfold gcdI
  have : 0 < Int.gcd a b := Int.gcd_pos_of_ne_zero_right _ hb
  omega
theorem gcdI_left (a b : Int) : gcdI a b ∣ a := Int.gcd_dvd_left ..
theorem gcdI_right (a b : Int) : gcdI a b ∣ b := Int.gcd_dvd_right ..
/-- A quotient in lowest terms: its numerator and its denominator. -/
def redN (num den : Int) : Int := if den < 0 then -(num / gcdI num den) else num / gcdI num den
def redD (num den : Int) : Int := if den < 0 then -(den / gcdI num den) else den / gcdI num den
theorem ediv_bd (x g M : Int) (hg : 1 ≤ g) (h1 : -M ≤ x) (h2 : x ≤ M) : -M ≤ x / g ∧ x / g ≤ M := by
  have hM : 0 ≤ M := by omega
  constructor
  · rw [Int.le_ediv_iff_mul_le (by omega)]
    have : M * 1 ≤ M * g := Int.mul_le_mul_of_nonneg_left hg hM
    rw [Int.neg_mul]
    omega
  · have : x / g * g ≤ x := Int.ediv_mul_le _ (by omega)
    rcases Int.le_total 0 (x / g) with h | h
    · have : x / g * 1 ≤ x / g * g := Int.mul_le_mul_of_nonneg_left hg h
      omega
    · omega

set_option maxHeartbeats 1000000 in
theorem reduced_any (num den : Int) (w : World) (h1 : -4000000000000000000 ≤ num) (h2 : num ≤ 4000000000000000000) (h3 : -4000000000000000000 ≤ den) (h4 : den ≤ 4000000000000000000) (h0 : den ≠ 0) :
    Calls Try.prog 70 #[.int .i64 num, .int .i64 den] w fun e w' => e = .returned (.agg #[.int .i64 (redN num den), .int .i64 (redD num den)]) ∧ w.grownBy w' none := by
  have HD := hide fun W => divisor_any num den W h1 h2 h3 h4
  have hp := gcdI_pos num den h0
  have e1 : num.tdiv (gcdI num den) = num / gcdI num den := Int.tdiv_eq_ediv_of_dvd (gcdI_left num den)
  have e2 : den.tdiv (gcdI num den) = den / gcdI num den := Int.tdiv_eq_ediv_of_dvd (gcdI_right num den)
  obtain ⟨b1, b2⟩ := ediv_bd num (gcdI num den) 4000000000000000000 hp h1 h2
  obtain ⟨b3, b4⟩ := ediv_bd den (gcdI num den) 4000000000000000000 hp h3 h4
  have hgl : gcdI num den ≤ 4000000000000000000 := by
    have := Int.le_of_dvd (a := gcdI num den) (b := (den.natAbs : Int)) (by omega) (Int.dvd_natAbs.2 (gcdI_right num den))
    omega
  unfold redN redD
  generalize gcdI num den = g at *
  by_cases hd : den < 0
  · rw [if_pos hd, if_pos hd]
    have q1 : IntKind.i64.wrap (num.tdiv (-g)) = -(num / g) := by rw [Int.tdiv_neg, e1]; exact IntWalk.i64_in _ (by omega)
    have q2 : IntKind.i64.wrap (den.tdiv (-g)) = -(den / g) := by rw [Int.tdiv_neg, e2]; exact IntWalk.i64_in _ (by omega)
    have q1' := q1
    have q2' := q2
    rw [Int.tdiv_neg] at q1' q2'
    have q3 : (-g == 0) = false := by simp; omega
    have q4 : ¬ g = 0 := by omega
    generalize num / g = x at *
    generalize den / g = y at *
    clear e1 e2
    go_enter Try.func70, Try.ntmps70
    go_wp2_with fail
    first | refine (ext_call (HD.out _)).mono ?_ | refine (to_ex (HD.out _)).mono ?_
    rintro e w' ⟨rfl, xx, rfl⟩
    go_wp2_with fail
    go_region_held3 (fun _ => True) (trivial) (first | fail)
    go_wp2_with fail
    refine bodyPost_ret (v := .agg #[.int .i64 (-x), .int .i64 (-y)]) (by simp [results, Try.results70, go_sem, q1', q2']) rfl ?_
    exact ⟨rfl, (by repeat (first | with_reducible assumption | with_reducible exact gr_refl _ _ | with_reducible refine kp_alloc ?_ _ | ((with_reducible refine kp_set ?_ ?_ _); rotate_left; focus (dsimp only; omega)) | with_reducible refine kp_ex ?_ _ | with_reducible refine kp_drewN ?_ _ | with_reducible refine kp_drew ?_ | with_reducible refine kp_exr ?_ _ | with_reducible refine kp_exr' ?_ _))⟩
  · rw [if_neg hd, if_neg hd]
    have q1 : IntKind.i64.wrap (num.tdiv g) = num / g := by rw [e1]; exact IntWalk.i64_in _ (by omega)
    have q2 : IntKind.i64.wrap (den.tdiv g) = den / g := by rw [e2]; exact IntWalk.i64_in _ (by omega)
    have q3 : (g == 0) = false := by simp; omega
    have q4 : ¬ g = 0 := by omega
    generalize num / g = x at *
    generalize den / g = y at *
    clear e1 e2
    go_enter Try.func70, Try.ntmps70
    go_wp2_with fail
    first | refine (ext_call (HD.out _)).mono ?_ | refine (to_ex (HD.out _)).mono ?_
    rintro e w' ⟨rfl, xx, rfl⟩
    go_wp2_with fail
    go_region_held3 (fun _ => True) (trivial) (first | fail)
    go_wp2_with fail
    refine bodyPost_ret (v := .agg #[.int .i64 x, .int .i64 y]) (by simp [results, Try.results70, go_sem]) rfl ?_
    exact ⟨rfl, (by repeat (first | with_reducible assumption | with_reducible exact gr_refl _ _ | with_reducible refine kp_alloc ?_ _ | ((with_reducible refine kp_set ?_ ?_ _); rotate_left; focus (dsimp only; omega)) | with_reducible refine kp_ex ?_ _ | with_reducible refine kp_drewN ?_ _ | with_reducible refine kp_drew ?_ | with_reducible refine kp_exr ?_ _ | with_reducible refine kp_exr' ?_ _))⟩
end Go.Proofs.Ytndkhbilefljnaa
