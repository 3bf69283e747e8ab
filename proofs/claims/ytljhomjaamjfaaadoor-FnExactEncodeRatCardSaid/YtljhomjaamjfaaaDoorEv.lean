/- Fractions that are valid: the program's and the reference's. -/
import Derived.Test.YtljhomjaamjfaaaDoorEb
import Derived.LoopTactic
namespace Go.Proofs.YtljhomjaamjfaaaDoor
open Go.RowKit
set_option linter.unusedSimpArgs false
set_option linter.unusedVariables false

theorem within_any (n a b : Int) (w : World) :
    Calls Tryd.prog 15 #[.int .i64 n, .int .i64 a, .int .i64 b] w fun e w' => e = .returned (.bool (decide (a ≤ n) && decide (n ≤ b))) ∧ w = w' := by
  go_enter Tryd.func15, Tryd.ntmps15
  go_wp2
  all_goals (go_ret; refine ⟨?_, rfl⟩; congr 1; congr 1; simp; try omega)

theorem inRange_any (n a b : Int) (w : World) :
    Calls Tryd.prog 11 #[.int .i64 n, .int .i64 a, .int .i64 b] w fun e w' => e = .returned (.bool (decide (a ≤ n) && decide (n ≤ b))) ∧ w = w' := by
  go_enter Tryd.func11, Tryd.ntmps11
  go_wp2
  all_goals (go_ret; refine ⟨?_, rfl⟩; congr 1; congr 1; simp; try omega)
/-- The greatest common divisor. -/
def gcdI (a b : Int) : Int := (Int.gcd a b : Nat)
theorem gcdI_step (a b : Int) : gcdI b (a.tmod b) = gcdI a b := by
  unfold gcdI
  congr 1
  show Nat.gcd b.natAbs (a.tmod b).natAbs = Nat.gcd a.natAbs b.natAbs
  rw [Int.natAbs_tmod, Nat.gcd_comm a.natAbs b.natAbs, Nat.gcd_rec b.natAbs a.natAbs, Nat.gcd_comm]
theorem gcdI_zero (a : Int) : gcdI a 0 = (a.natAbs : Int) := by unfold gcdI; simp [Int.gcd]
theorem tmod_bd (a b : Int) (hb : b ≠ 0) : (a.tmod b).natAbs < b.natAbs := by rw [Int.natAbs_tmod]; exact Nat.mod_lt _ (by omega)

theorem bd_of_natAbs (r y M : Int) (h : r.natAbs < y.natAbs) (h1 : -M ≤ y) (h2 : y ≤ M) : -M ≤ r ∧ r ≤ M := by omega
theorem abs_any (a : Int) (w : World) (h1 : -4000000000000000000 ≤ a) (h2 : a ≤ 4000000000000000000) : Calls Tryd.prog 18 #[.int .i64 a] w fun e w' => e = .returned (.int .i64 (a.natAbs : Int)) ∧ w.grownBy w' none := by
  go_enter Tryd.func18, Tryd.ntmps18
  go_wp2
  all_goals (go_ret; exact ⟨ret_int (by omega), (by repeat (first | with_reducible assumption | with_reducible exact gr_refl _ _ | with_reducible refine kp_alloc ?_ _ | ((with_reducible refine kp_set ?_ ?_ _); rotate_left; focus (dsimp only; omega)) | with_reducible refine kp_ex ?_ _ | with_reducible refine kp_drewN ?_ _ | with_reducible refine kp_drew ?_ | with_reducible refine kp_exr ?_ _ | with_reducible refine kp_exr' ?_ _))⟩)

def RelG (w : World) (g : Int) (a b : Value) (wr : World) : Prop := ∃ x y : Int, a = .int .i64 x ∧ b = .int .i64 y ∧ -4000000000000000000 ≤ x ∧ x ≤ 4000000000000000000 ∧ -4000000000000000000 ≤ y ∧ y ≤ 4000000000000000000 ∧ gcdI x y = g ∧ w.grownBy wr none

set_option maxHeartbeats 1000000 in
theorem divisor_any (a b : Int) (w : World) (h1 : -4000000000000000000 ≤ a) (h2 : a ≤ 4000000000000000000) (h3 : -4000000000000000000 ≤ b) (h4 : b ≤ 4000000000000000000) :
    Calls Tryd.prog 16 #[.int .i64 a, .int .i64 b] w fun e w' => e = .returned (.int .i64 (gcdI a b)) ∧ w.grownBy w' none := by
  generalize hg : gcdI a b = g
  have start : RelG w g (.int .i64 a) (.int .i64 b) w := ⟨a, b, rfl, rfl, h1, h2, h3, h4, hg, gr_refl w none⟩
  clear hg
  go_enter Tryd.func16, Tryd.ntmps16
  go_wp2_with fail
  go_loopw [0, 1] (fun u v wr => RelG w g u v wr) (fun _ v _ => (intOf v).natAbs)
  case atStart => exact start
  case round =>
    clear start h1 h2 h3 h4
    obtain ⟨x, y, rfl, rfl, h1, h2, h3, h4, hg, hk⟩ := hrel
    have HG := hide hg
    clear hg
    by_cases h0 : y = 0
    · subst h0
      go_wp2_with fail
      refine (abs_any x _ h1 h2).mono ?_
      rintro e w1 ⟨rfl, hk1⟩
      go_wp2_with fail
      go_ret
      exact ⟨ret_int (by rw [← HG.out, gcdI_zero]), kp_trans hk hk1⟩
    · have h0' : (y == 0) = false := by simp [h0]
      have h0'' : (y != 0) = true := by simp [h0]
      have hb := tmod_bd x y h0
      obtain ⟨hb1, hb2⟩ := bd_of_natAbs _ _ _ hb h3 h4
      have hw : IntKind.i64.wrap (x.tmod y) = x.tmod y := IntWalk.i64_in _ ⟨Int.le_trans (by decide) hb1, Int.le_trans hb2 (by decide)⟩
      go_wp2_with fail
      go_quiet (fail)
      go_wp2_with fail
      go_roundw
      case rel => exact ⟨y, x.tmod y, rfl, rfl, h3, h4, hb1, hb2, by rw [gcdI_step]; exact HG.out, kp_drewN hk _⟩
      case measure => exact hb

/-- A valid fraction. -/
def okR (n d : Int) : Bool := decide (-100000000000 ≤ n ∧ n ≤ 100000000000) && (decide (1 ≤ d ∧ d ≤ 20000000) && decide (gcdI n d = 1))
theorem okR_bd {n d : Int} (h : okR n d = true) : (-100000000000 ≤ n ∧ n ≤ 100000000000) ∧ (1 ≤ d ∧ d ≤ 20000000) ∧ gcdI n d = 1 := by
  unfold okR at h
  simpa only [Bool.and_eq_true, decide_eq_true_eq] using h
/-- If it is valid, else 0. -/
def orZ (b : Bool) (n : Int) : Int := if b = true then n else 0

theorem byte_rem' (u n : Int) (hn : 0 < n) : 0 ≤ u % n ∧ u % n < n := ⟨Int.emod_nonneg _ (by omega), Int.emod_lt_of_pos _ hn⟩
theorem gcdI_natAbs (a b : Int) : gcdI (a.natAbs : Int) b = gcdI a b := by unfold gcdI; simp [Int.gcd]
theorem gcdI_neg_right (a b : Int) : gcdI a (-b) = gcdI a b := by unfold gcdI; simp [Int.gcd]
def RelG2 (w : World) (g : Int) (a b : Value) (wr : World) : Prop := ∃ x y : Int, a = .int .i64 x ∧ b = .int .i64 y ∧ 0 ≤ x ∧ x ≤ 4000000000000000000 ∧ 0 ≤ y ∧ y ≤ 4000000000000000000 ∧ gcdI x y = g ∧ w.grownBy wr none
theorem sabs_any (a : Int) (w : World) (h1 : -4000000000000000000 ≤ a) (h2 : a ≤ 4000000000000000000) : Calls Tryd.prog 13 #[.int .i64 a] w fun e w' => e = .returned (.int .i64 (a.natAbs : Int)) ∧ w.grownBy w' none := by
  by_cases h : a < 0
  · go_enter Tryd.func13, Tryd.ntmps13
    go_wp2_with fail
    go_ret
    exact ⟨ret_int (by omega), (by repeat (first | with_reducible assumption | with_reducible exact gr_refl _ _ | with_reducible refine kp_alloc ?_ _ | ((with_reducible refine kp_set ?_ ?_ _); rotate_left; focus (dsimp only; omega)) | with_reducible refine kp_ex ?_ _ | with_reducible refine kp_drewN ?_ _ | with_reducible refine kp_drew ?_ | with_reducible refine kp_exr ?_ _ | with_reducible refine kp_exr' ?_ _))⟩
  · go_enter Tryd.func13, Tryd.ntmps13
    go_wp2_with fail
    go_ret
    exact ⟨ret_int (by omega), (by repeat (first | with_reducible assumption | with_reducible exact gr_refl _ _ | with_reducible refine kp_alloc ?_ _ | ((with_reducible refine kp_set ?_ ?_ _); rotate_left; focus (dsimp only; omega)) | with_reducible refine kp_ex ?_ _ | with_reducible refine kp_drewN ?_ _ | with_reducible refine kp_drew ?_ | with_reducible refine kp_exr ?_ _ | with_reducible refine kp_exr' ?_ _))⟩

set_option maxHeartbeats 1000000 in
theorem sgcd_any (a b : Int) (w : World) (h1 : 0 ≤ a) (h2 : a ≤ 4000000000000000000) (h3 : 0 ≤ b) (h4 : b ≤ 4000000000000000000) :
    Calls Tryd.prog 12 #[.int .i64 a, .int .i64 b] w fun e w' => e = .returned (.int .i64 (gcdI a b)) ∧ w.grownBy w' none := by
  generalize hg : gcdI a b = g
  have start : RelG2 w g (.int .i64 a) (.int .i64 b) w := ⟨a, b, rfl, rfl, h1, h2, h3, h4, hg, gr_refl w none⟩
  clear hg
  go_enter Tryd.func12, Tryd.ntmps12
  go_wp2_with fail
  go_loopw [0, 1] (fun u v wr => RelG2 w g u v wr) (fun _ v _ => (intOf v).natAbs)
  case atStart => exact start
  case round =>
    clear start h1 h2 h3 h4
    obtain ⟨x, y, rfl, rfl, h1, h2, h3, h4, hg, hk⟩ := hrel
    have HG := hide hg
    clear hg
    by_cases h0 : y = 0
    · subst h0
      go_wp2_with fail
      go_ret
      exact ⟨ret_int (by rw [← HG.out, gcdI_zero]; omega), hk⟩
    · have h0' : 0 < y := by omega
      have hb := byte_rem' x y h0'
      obtain ⟨hb1, hb2⟩ := hb
      have HS := hide (gcdI_step x y)
      rw [Int.tmod_eq_emod_of_nonneg h1] at HS
      go_wp2_with fail
      go_roundw
      case rel => exact ⟨y, x % y, rfl, rfl, h3, h4, hb1, by omega, by rw [HS.out]; exact HG.out, hk⟩
      case measure => simp only [intOf]; omega

set_option maxHeartbeats 1000000 in
theorem irvalid_any (n d : Int) (w : World) : Calls Tryd.prog 9 #[.agg #[.int .i64 n, .int .i64 d]] w fun e w' => e = .returned (.bool (okR n d)) ∧ w.grownBy w' none := by
  by_cases c1 : -100000000000 ≤ n ∧ n ≤ 100000000000
  · obtain ⟨a1, a2⟩ := c1
    by_cases c2 : 1 ≤ d ∧ d ≤ 20000000
    · obtain ⟨a3, a4⟩ := c2
      have HG := hide fun W => divisor_any n d W (by omega) (by omega) (by omega) (by omega)
      generalize hg : gcdI n d = g at HG
      have HE := hide hg
      clear hg
      go_enter Tryd.func9, Tryd.ntmps9
      go_wp2_with (go_at_call 15; refine (within_any _ _ _ _).mono ?_; rintro e w' ⟨rfl, rfl⟩)
      first | refine (ext_call (HG.out _)).mono ?_ | refine (to_ex (HG.out _)).mono ?_
      rintro e w' ⟨rfl, xx, rfl⟩
      go_wp2_with fail
      go_ret
      exact ⟨ret_bool (by rw [Bool.eq_iff_iff]; simp [okR, HE.out, a1, a2, a3, a4]), (by repeat (first | with_reducible assumption | with_reducible exact gr_refl _ _ | with_reducible refine kp_alloc ?_ _ | ((with_reducible refine kp_set ?_ ?_ _); rotate_left; focus (dsimp only; omega)) | with_reducible refine kp_ex ?_ _ | with_reducible refine kp_drewN ?_ _ | with_reducible refine kp_drew ?_ | with_reducible refine kp_exr ?_ _ | with_reducible refine kp_exr' ?_ _))⟩
    · go_enter Tryd.func9, Tryd.ntmps9
      go_wp2_with (go_at_call 15; refine (within_any _ _ _ _).mono ?_; rintro e w' ⟨rfl, rfl⟩)
      all_goals (first | (exfalso; omega) | (go_ret; exact ⟨ret_bool (by rw [Bool.eq_iff_iff]; simp [okR]; try omega), (by repeat (first | with_reducible assumption | with_reducible exact gr_refl _ _ | with_reducible refine kp_alloc ?_ _ | ((with_reducible refine kp_set ?_ ?_ _); rotate_left; focus (dsimp only; omega)) | with_reducible refine kp_ex ?_ _ | with_reducible refine kp_drewN ?_ _ | with_reducible refine kp_drew ?_ | with_reducible refine kp_exr ?_ _ | with_reducible refine kp_exr' ?_ _))⟩))
  · go_enter Tryd.func9, Tryd.ntmps9
    go_wp2_with (go_at_call 15; refine (within_any _ _ _ _).mono ?_; rintro e w' ⟨rfl, rfl⟩)
    all_goals (first | (exfalso; omega) | (go_ret; exact ⟨ret_bool (by rw [Bool.eq_iff_iff]; simp [okR]; try omega), (by repeat (first | with_reducible assumption | with_reducible exact gr_refl _ _ | with_reducible refine kp_alloc ?_ _ | ((with_reducible refine kp_set ?_ ?_ _); rotate_left; focus (dsimp only; omega)) | with_reducible refine kp_ex ?_ _ | with_reducible refine kp_drewN ?_ _ | with_reducible refine kp_drew ?_ | with_reducible refine kp_exr ?_ _ | with_reducible refine kp_exr' ?_ _))⟩))

theorem inRange_t (n a b : Int) (h1 : a ≤ n) (h2 : n ≤ b) (w : World) : Calls Tryd.prog 11 #[.int .i64 n, .int .i64 a, .int .i64 b] w fun e w' => e = .returned (.bool true) ∧ w.grownBy w' none :=
  (inRange_any n a b w).mono fun _ _ ⟨he, hw⟩ => ⟨by rw [he]; simp [h1, h2], hw ▸ gr_refl w none⟩
theorem inRange_f (n a b : Int) (h : ¬ (a ≤ n ∧ n ≤ b)) (w : World) : Calls Tryd.prog 11 #[.int .i64 n, .int .i64 a, .int .i64 b] w fun e w' => e = .returned (.bool false) ∧ w.grownBy w' none :=
  (inRange_any n a b w).mono fun _ _ ⟨he, hw⟩ => ⟨by rw [he, show (decide (a ≤ n) && decide (n ≤ b)) = false by simp; omega], hw ▸ gr_refl w none⟩
set_option maxHeartbeats 1000000 in
theorem srvalid_any (n d : Int) (w : World) : Calls Tryd.prog 7 #[.agg #[.int .i64 n, .int .i64 d]] w fun e w' => e = .returned (.bool (okR n d)) ∧ w.grownBy w' none := by
  by_cases c1 : -100000000000 ≤ n ∧ n ≤ 100000000000
  · obtain ⟨a1, a2⟩ := c1
    have HR1 := hide fun W => inRange_t n (-100000000000) 100000000000 a1 a2 W
    by_cases c2 : 1 ≤ d ∧ d ≤ 20000000
    · obtain ⟨a3, a4⟩ := c2
      have HR2 := hide fun W => inRange_t d 1 20000000 a3 a4 W
      have HG := hide fun W => sgcd_any (n.natAbs : Int) d W (by omega) (by omega) (by omega) (by omega)
      rw [gcdI_natAbs] at HG
      have HA := hide fun W => sabs_any n W (by omega) (by omega)
      generalize hg : gcdI n d = g at HG
      have HE := hide hg
      clear hg
      go_enter Tryd.func7, Tryd.ntmps7
      go_wp2_with fail
      refine wp_region_ext none (by kernel_rfl) (by kernel_rfl) ?_
      repeat (go_big_quiet_step (first | (go_at_call 11; first | (with_reducible exact ext_call (HR1.out _)) | (with_reducible exact ext_call (HR2.out _))) | (go_at_call 13; exact ext_call (HA.out _)) | (go_at_call 12; exact ext_call (HG.out _))))
      refine wpQuiet_nil ?_
      rintro _ ⟨x, rfl⟩
      go_wp2_with fail
      go_ret
      exact ⟨ret_bool (by rw [Bool.eq_iff_iff]; simp [okR, HE.out, a1, a2, a3, a4]), (by repeat (first | with_reducible assumption | with_reducible exact gr_refl _ _ | with_reducible refine kp_alloc ?_ _ | ((with_reducible refine kp_set ?_ ?_ _); rotate_left; focus (dsimp only; omega)) | with_reducible refine kp_ex ?_ _ | with_reducible refine kp_drewN ?_ _ | with_reducible refine kp_drew ?_ | with_reducible refine kp_exr ?_ _ | with_reducible refine kp_exr' ?_ _))⟩
    · have HR2 := hide fun W => inRange_f d 1 20000000 c2 W
      go_enter Tryd.func7, Tryd.ntmps7
      go_wp2_with fail
      refine wp_region_ext none (by kernel_rfl) (by kernel_rfl) ?_
      repeat (go_big_quiet_step (first | (go_at_call 11; first | (with_reducible exact ext_call (HR1.out _)) | (with_reducible exact ext_call (HR2.out _)))))
      refine wpQuiet_nil ?_
      rintro _ ⟨x, rfl⟩
      go_wp2_with fail
      go_ret
      exact ⟨ret_bool (by rw [Bool.eq_iff_iff]; simp [okR]; omega), (by repeat (first | with_reducible assumption | with_reducible exact gr_refl _ _ | with_reducible refine kp_alloc ?_ _ | ((with_reducible refine kp_set ?_ ?_ _); rotate_left; focus (dsimp only; omega)) | with_reducible refine kp_ex ?_ _ | with_reducible refine kp_drewN ?_ _ | with_reducible refine kp_drew ?_ | with_reducible refine kp_exr ?_ _ | with_reducible refine kp_exr' ?_ _))⟩
  · have HR1 := hide fun W => inRange_f n (-100000000000) 100000000000 c1 W
    have HR2 := HR1
    go_enter Tryd.func7, Tryd.ntmps7
    go_wp2_with fail
    refine wp_region_ext none (by kernel_rfl) (by kernel_rfl) ?_
    repeat (go_big_quiet_step (first | (go_at_call 11; first | (with_reducible exact ext_call (HR1.out _)) | (with_reducible exact ext_call (HR2.out _)))))
    refine wpQuiet_nil ?_
    rintro _ ⟨x, rfl⟩
    go_wp2_with fail
    go_ret
    exact ⟨ret_bool (by rw [Bool.eq_iff_iff]; simp [okR]; omega), (by repeat (first | with_reducible assumption | with_reducible exact gr_refl _ _ | with_reducible refine kp_alloc ?_ _ | ((with_reducible refine kp_set ?_ ?_ _); rotate_left; focus (dsimp only; omega)) | with_reducible refine kp_ex ?_ _ | with_reducible refine kp_drewN ?_ _ | with_reducible refine kp_drew ?_ | with_reducible refine kp_exr ?_ _ | with_reducible refine kp_exr' ?_ _))⟩
end Go.Proofs.YtljhomjaamjfaaaDoor
