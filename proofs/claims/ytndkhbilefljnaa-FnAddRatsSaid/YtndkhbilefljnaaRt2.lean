/- Fractions: the program's and the reference's. -/
import Derived.Test.YtndkhbilefljnaaRt
import Derived.Test.YtndkhbilefljnaaS1
import Derived.Test.YtndkhbilefljnaaEq
namespace Go.Proofs.Ytndkhbilefljnaa
open Go.RowKit
set_option linter.unusedSimpArgs false
set_option linter.unusedVariables false

/-- A valid fraction. -/
def okR (n d : Int) : Bool := decide (-100000000000 ≤ n ∧ n ≤ 100000000000) && (decide (1 ≤ d ∧ d ≤ 20000000) && decide (gcdI n d = 1))
theorem okR_bd {n d : Int} (h : okR n d = true) : (-100000000000 ≤ n ∧ n ≤ 100000000000) ∧ (1 ≤ d ∧ d ≤ 20000000) ∧ gcdI n d = 1 := by
  unfold okR at h
  simpa only [Bool.and_eq_true, decide_eq_true_eq] using h
/-- If it is valid, else 0. -/
def orZ (b : Bool) (n : Int) : Int := if b = true then n else 0

theorem byte_rem' (u n : Int) (hn : 0 < n) : 0 ≤ u % n ∧ u % n < n := ⟨Int.emod_nonneg _ (by omega), Int.emod_lt_of_pos _ hn⟩
theorem gcdI_natAbs (a b : Int) : gcdI (a.natAbs : Int) b = gcdI a b := by unfold gcdI; simp [Int.gcd]
theorem gcdI_neg_right (a b : Int) : gcdI a (-b) = gcdI a b := by unfold gcdI; simp [Int.gcd]
def RelG2 (w : World) (g : Int) (a b : Value) (wr : World) : Prop := ∃ x y : Int, a = .int .i64 x ∧ b = .int .i64 y ∧ 0 ≤ x ∧ x ≤ 4000000000000000000 ∧ 0 ≤ y ∧ y ≤ 4000000000000000000 ∧ gcdI x y = g ∧ w.grownBy wr none
theorem sabs_any (a : Int) (w : World) (h1 : -4000000000000000000 ≤ a) (h2 : a ≤ 4000000000000000000) : Calls Try.prog 75 #[.int .i64 a] w fun e w' => e = .returned (.int .i64 (a.natAbs : Int)) ∧ w.grownBy w' none := by
  by_cases h : a < 0
  · go_enter Try.func75, Try.ntmps75
    go_wp2_with fail
    go_ret
    exact ⟨ret_int (by omega), (by repeat (first | with_reducible assumption | with_reducible exact gr_refl _ _ | with_reducible refine kp_alloc ?_ _ | ((with_reducible refine kp_set ?_ ?_ _); rotate_left; focus (dsimp only; omega)) | with_reducible refine kp_ex ?_ _ | with_reducible refine kp_drewN ?_ _ | with_reducible refine kp_drew ?_ | with_reducible refine kp_exr ?_ _ | with_reducible refine kp_exr' ?_ _))⟩
  · go_enter Try.func75, Try.ntmps75
    go_wp2_with fail
    go_ret
    exact ⟨ret_int (by omega), (by repeat (first | with_reducible assumption | with_reducible exact gr_refl _ _ | with_reducible refine kp_alloc ?_ _ | ((with_reducible refine kp_set ?_ ?_ _); rotate_left; focus (dsimp only; omega)) | with_reducible refine kp_ex ?_ _ | with_reducible refine kp_drewN ?_ _ | with_reducible refine kp_drew ?_ | with_reducible refine kp_exr ?_ _ | with_reducible refine kp_exr' ?_ _))⟩

set_option maxHeartbeats 1000000 in
theorem sgcd_any (a b : Int) (w : World) (h1 : 0 ≤ a) (h2 : a ≤ 4000000000000000000) (h3 : 0 ≤ b) (h4 : b ≤ 4000000000000000000) :
    Calls Try.prog 128 #[.int .i64 a, .int .i64 b] w fun e w' => e = .returned (.int .i64 (gcdI a b)) ∧ w.grownBy w' none := by
  generalize hg : gcdI a b = g
  have start : RelG2 w g (.int .i64 a) (.int .i64 b) w := ⟨a, b, rfl, rfl, h1, h2, h3, h4, hg, gr_refl w none⟩
  clear hg
  go_enter Try.func128, Try.ntmps128
  go_wp2_with fail
  go_loopw [0, 1] (fun u v wr => RelG2 w g u v wr) (fun _ v _ => (intOf v).natAbs)
  case atStart => exact start
  case round =>
    clear start h1 h2 h3 h4
    obtain ⟨x, y, rfl, rfl, h1, h2, h3, h4, hg, hk⟩ := hrel
    have HG := hide hg
    clear hg
    by_cases h0 : y = 0
    · subst h0
      go_wp2_with fail
      go_ret
      exact ⟨ret_int (by rw [← HG.out, gcdI_zero]; omega), hk⟩
    · have h0' : 0 < y := by omega
      have hb := byte_rem' x y h0'
      obtain ⟨hb1, hb2⟩ := hb
      have HS := hide (gcdI_step x y)
      rw [Int.tmod_eq_emod_of_nonneg h1] at HS
      go_wp2_with fail
      go_roundw
      case rel => exact ⟨y, x % y, rfl, rfl, h3, h4, hb1, by omega, by rw [HS.out]; exact HG.out, hk⟩
      case measure => simp only [intOf]; omega

set_option maxHeartbeats 1000000 in
theorem ratio_any (num den : Int) (w : World) (h1 : -4000000000000000000 ≤ num) (h2 : num ≤ 4000000000000000000) (h3 : -4000000000000000000 ≤ den) (h4 : den ≤ 4000000000000000000) (h0 : den ≠ 0) :
    Calls Try.prog 74 #[.int .i64 num, .int .i64 den] w fun e w' => e = .returned (.agg #[.int .i64 (redN num den), .int .i64 (redD num den)]) ∧ w.grownBy w' none := by
  have hp := gcdI_pos num den h0
  have dl := gcdI_left num den
  have dr := gcdI_right num den
  obtain ⟨b1, b2⟩ := ediv_bd num (gcdI num den) 4000000000000000000 hp h1 h2
  obtain ⟨b3, b4⟩ := ediv_bd den (gcdI num den) 4000000000000000000 hp h3 h4
  have hgl : gcdI num den ≤ 4000000000000000000 := by
    have := Int.le_of_dvd (a := gcdI num den) (b := (den.natAbs : Int)) (by omega) (Int.dvd_natAbs.2 dr)
    omega
  have HA : ∀ x : Int, x.natAbs = num.natAbs → -4000000000000000000 ≤ x → x ≤ 4000000000000000000 → Hid (∀ W, Calls Try.prog 75 #[.int .i64 x] W fun e w' => e = .returned (.int .i64 (num.natAbs : Int)) ∧ W.grownBy w' none) := fun x hx hx1 hx2 W => hx ▸ sabs_any x W hx1 hx2
  unfold redN redD
  by_cases hd : den < 0
  · rw [if_pos hd, if_pos hd]
    have HG := hide fun W => sgcd_any (num.natAbs : Int) (-den) W (by omega) (by omega) (by omega) (by omega)
    rw [gcdI_natAbs, gcdI_neg_right] at HG
    have HA' := HA (-num) (by omega) (by omega) (by omega)
    have e1 : (-num).tdiv (gcdI num den) = -(num / gcdI num den) := by rw [Int.neg_tdiv, Int.tdiv_eq_ediv_of_dvd dl]
    have e2 : (-den).tdiv (gcdI num den) = -(den / gcdI num den) := by rw [Int.neg_tdiv, Int.tdiv_eq_ediv_of_dvd dr]
    generalize gcdI num den = g at *
    have q1 : IntKind.i64.wrap ((-num).tdiv g) = -(num / g) := by rw [e1]; exact IntWalk.i64_in _ (by omega)
    have q2 : IntKind.i64.wrap ((-den).tdiv g) = -(den / g) := by rw [e2]; exact IntWalk.i64_in _ (by omega)
    have q1' := q1
    have q2' := q2
    rw [Int.neg_tdiv] at q1' q2'
    have q3 : (g == 0) = false := by simp; omega
    have q4 : ¬ g = 0 := by omega
    generalize num / g = x at *
    generalize den / g = y at *
    clear e1 e2 HA dl dr
    go_enter Try.func74, Try.ntmps74
    go_wp2_with fail
    first | refine (ext_call (HA'.out _)).mono ?_ | refine (to_ex (HA'.out _)).mono ?_
    rintro e w' ⟨rfl, xx, rfl⟩
    go_wp2_with fail
    first | refine (ext_call (HG.out _)).mono ?_ | refine (to_ex (HG.out _)).mono ?_
    rintro e w' ⟨rfl, xx, rfl⟩
    go_wp2_with fail
    go_region_held3 (fun _ => True) (trivial) (first | fail)
    go_wp2_with fail
    refine bodyPost_ret (v := .agg #[.int .i64 (-x), .int .i64 (-y)]) (by simp [results, Try.results74, go_sem, q1', q2']) rfl ?_
    exact ⟨rfl, (by repeat (first | with_reducible assumption | with_reducible exact gr_refl _ _ | with_reducible refine kp_alloc ?_ _ | ((with_reducible refine kp_set ?_ ?_ _); rotate_left; focus (dsimp only; omega)) | with_reducible refine kp_ex ?_ _ | with_reducible refine kp_drewN ?_ _ | with_reducible refine kp_drew ?_ | with_reducible refine kp_exr ?_ _ | with_reducible refine kp_exr' ?_ _))⟩
  · rw [if_neg hd, if_neg hd]
    have HG := hide fun W => sgcd_any (num.natAbs : Int) den W (by omega) (by omega) (by omega) (by omega)
    rw [gcdI_natAbs] at HG
    have HA' := HA num rfl h1 h2
    have e1 : num.tdiv (gcdI num den) = num / gcdI num den := Int.tdiv_eq_ediv_of_dvd dl
    have e2 : den.tdiv (gcdI num den) = den / gcdI num den := Int.tdiv_eq_ediv_of_dvd dr
    generalize gcdI num den = g at *
    have q1 : IntKind.i64.wrap (num.tdiv g) = num / g := by rw [e1]; exact IntWalk.i64_in _ (by omega)
    have q2 : IntKind.i64.wrap (den.tdiv g) = den / g := by rw [e2]; exact IntWalk.i64_in _ (by omega)
    have q2'' : IntKind.i64.wrap (den / g) = den / g := IntWalk.i64_in _ (by omega)
    have q3 : (g == 0) = false := by simp; omega
    have q4 : ¬ g = 0 := by omega
    clear e1 e2 HA dl dr
    go_enter Try.func74, Try.ntmps74
    go_wp2_with fail
    first | refine (ext_call (HA'.out _)).mono ?_ | refine (to_ex (HA'.out _)).mono ?_
    rintro e w' ⟨rfl, xx, rfl⟩
    go_wp2_with fail
    first | refine (ext_call (HG.out _)).mono ?_ | refine (to_ex (HG.out _)).mono ?_
    rintro e w' ⟨rfl, xx, rfl⟩
    go_wp2_with fail
    go_region_held3 (fun _ => True) (trivial) (first | fail)
    go_wp2_with fail
    refine bodyPost_ret (v := .agg #[.int .i64 (num / g), .int .i64 (den / g)]) (by simp [results, Try.results74, go_sem, q1, q2, q2'']) rfl ?_
    exact ⟨rfl, (by repeat (first | with_reducible assumption | with_reducible exact gr_refl _ _ | with_reducible refine kp_alloc ?_ _ | ((with_reducible refine kp_set ?_ ?_ _); rotate_left; focus (dsimp only; omega)) | with_reducible refine kp_ex ?_ _ | with_reducible refine kp_drewN ?_ _ | with_reducible refine kp_drew ?_ | with_reducible refine kp_exr ?_ _ | with_reducible refine kp_exr' ?_ _))⟩

set_option maxHeartbeats 1000000 in
theorem irvalid_any (n d : Int) (w : World) : Calls Try.prog 69 #[.agg #[.int .i64 n, .int .i64 d]] w fun e w' => e = .returned (.bool (okR n d)) ∧ w.grownBy w' none := by
  by_cases c1 : -100000000000 ≤ n ∧ n ≤ 100000000000
  · obtain ⟨a1, a2⟩ := c1
    by_cases c2 : 1 ≤ d ∧ d ≤ 20000000
    · obtain ⟨a3, a4⟩ := c2
      have HG := hide fun W => divisor_any n d W (by omega) (by omega) (by omega) (by omega)
      generalize hg : gcdI n d = g at HG
      have HE := hide hg
      clear hg
      go_enter Try.func69, Try.ntmps69
      go_wp2_with (go_at_call 126; refine (within_any _ _ _ _).mono ?_; rintro e w' ⟨rfl, rfl⟩)
      first | refine (ext_call (HG.out _)).mono ?_ | refine (to_ex (HG.out _)).mono ?_
      rintro e w' ⟨rfl, xx, rfl⟩
      go_wp2_with fail
      go_ret
      exact ⟨ret_bool (by rw [Bool.eq_iff_iff]; simp [okR, HE.out, a1, a2, a3, a4]), (by repeat (first | with_reducible assumption | with_reducible exact gr_refl _ _ | with_reducible refine kp_alloc ?_ _ | ((with_reducible refine kp_set ?_ ?_ _); rotate_left; focus (dsimp only; omega)) | with_reducible refine kp_ex ?_ _ | with_reducible refine kp_drewN ?_ _ | with_reducible refine kp_drew ?_ | with_reducible refine kp_exr ?_ _ | with_reducible refine kp_exr' ?_ _))⟩
    · go_enter Try.func69, Try.ntmps69
      go_wp2_with (go_at_call 126; refine (within_any _ _ _ _).mono ?_; rintro e w' ⟨rfl, rfl⟩)
      all_goals (first | (exfalso; omega) | (go_ret; exact ⟨ret_bool (by rw [Bool.eq_iff_iff]; simp [okR]; try omega), (by repeat (first | with_reducible assumption | with_reducible exact gr_refl _ _ | with_reducible refine kp_alloc ?_ _ | ((with_reducible refine kp_set ?_ ?_ _); rotate_left; focus (dsimp only; omega)) | with_reducible refine kp_ex ?_ _ | with_reducible refine kp_drewN ?_ _ | with_reducible refine kp_drew ?_ | with_reducible refine kp_exr ?_ _ | with_reducible refine kp_exr' ?_ _))⟩))
  · go_enter Try.func69, Try.ntmps69
    go_wp2_with (go_at_call 126; refine (within_any _ _ _ _).mono ?_; rintro e w' ⟨rfl, rfl⟩)
    all_goals (first | (exfalso; omega) | (go_ret; exact ⟨ret_bool (by rw [Bool.eq_iff_iff]; simp [okR]; try omega), (by repeat (first | with_reducible assumption | with_reducible exact gr_refl _ _ | with_reducible refine kp_alloc ?_ _ | ((with_reducible refine kp_set ?_ ?_ _); rotate_left; focus (dsimp only; omega)) | with_reducible refine kp_ex ?_ _ | with_reducible refine kp_drewN ?_ _ | with_reducible refine kp_drew ?_ | with_reducible refine kp_exr ?_ _ | with_reducible refine kp_exr' ?_ _))⟩))

theorem inRange_t (n a b : Int) (h1 : a ≤ n) (h2 : n ≤ b) (w : World) : Calls Try.prog 119 #[.int .i64 n, .int .i64 a, .int .i64 b] w fun e w' => e = .returned (.bool true) ∧ w.grownBy w' none :=
  (inRange_any n a b w).mono fun _ _ ⟨he, hw⟩ => ⟨by rw [he]; simp [h1, h2], hw ▸ gr_refl w none⟩
theorem inRange_f (n a b : Int) (h : ¬ (a ≤ n ∧ n ≤ b)) (w : World) : Calls Try.prog 119 #[.int .i64 n, .int .i64 a, .int .i64 b] w fun e w' => e = .returned (.bool false) ∧ w.grownBy w' none :=
  (inRange_any n a b w).mono fun _ _ ⟨he, hw⟩ => ⟨by rw [he, show (decide (a ≤ n) && decide (n ≤ b)) = false by simp; omega], hw ▸ gr_refl w none⟩
set_option maxHeartbeats 1000000 in
theorem srvalid_any (n d : Int) (w : World) : Calls Try.prog 73 #[.agg #[.int .i64 n, .int .i64 d]] w fun e w' => e = .returned (.bool (okR n d)) ∧ w.grownBy w' none := by
  by_cases c1 : -100000000000 ≤ n ∧ n ≤ 100000000000
  · obtain ⟨a1, a2⟩ := c1
    have HR1 := hide fun W => inRange_t n (-100000000000) 100000000000 a1 a2 W
    by_cases c2 : 1 ≤ d ∧ d ≤ 20000000
    · obtain ⟨a3, a4⟩ := c2
      have HR2 := hide fun W => inRange_t d 1 20000000 a3 a4 W
      have HG := hide fun W => sgcd_any (n.natAbs : Int) d W (by omega) (by omega) (by omega) (by omega)
      rw [gcdI_natAbs] at HG
      have HA := hide fun W => sabs_any n W (by omega) (by omega)
      generalize hg : gcdI n d = g at HG
      have HE := hide hg
      clear hg
      go_enter Try.func73, Try.ntmps73
      go_wp2_with fail
      refine wp_region_ext none (by kernel_rfl) (by kernel_rfl) ?_
      repeat (go_big_quiet_step (first | (go_at_call 119; first | (with_reducible exact ext_call (HR1.out _)) | (with_reducible exact ext_call (HR2.out _))) | (go_at_call 75; exact ext_call (HA.out _)) | (go_at_call 128; exact ext_call (HG.out _))))
      refine wpQuiet_nil ?_
      rintro _ ⟨x, rfl⟩
      go_wp2_with fail
      go_ret
      exact ⟨ret_bool (by rw [Bool.eq_iff_iff]; simp [okR, HE.out, a1, a2, a3, a4]), (by repeat (first | with_reducible assumption | with_reducible exact gr_refl _ _ | with_reducible refine kp_alloc ?_ _ | ((with_reducible refine kp_set ?_ ?_ _); rotate_left; focus (dsimp only; omega)) | with_reducible refine kp_ex ?_ _ | with_reducible refine kp_drewN ?_ _ | with_reducible refine kp_drew ?_ | with_reducible refine kp_exr ?_ _ | with_reducible refine kp_exr' ?_ _))⟩
    · have HR2 := hide fun W => inRange_f d 1 20000000 c2 W
      go_enter Try.func73, Try.ntmps73
      go_wp2_with fail
      refine wp_region_ext none (by kernel_rfl) (by kernel_rfl) ?_
      repeat (go_big_quiet_step (first | (go_at_call 119; first | (with_reducible exact ext_call (HR1.out _)) | (with_reducible exact ext_call (HR2.out _)))))
      refine wpQuiet_nil ?_
      rintro _ ⟨x, rfl⟩
      go_wp2_with fail
      go_ret
      exact ⟨ret_bool (by rw [Bool.eq_iff_iff]; simp [okR]; omega), (by repeat (first | with_reducible assumption | with_reducible exact gr_refl _ _ | with_reducible refine kp_alloc ?_ _ | ((with_reducible refine kp_set ?_ ?_ _); rotate_left; focus (dsimp only; omega)) | with_reducible refine kp_ex ?_ _ | with_reducible refine kp_drewN ?_ _ | with_reducible refine kp_drew ?_ | with_reducible refine kp_exr ?_ _ | with_reducible refine kp_exr' ?_ _))⟩
  · have HR1 := hide fun W => inRange_f n (-100000000000) 100000000000 c1 W
    have HR2 := HR1
    go_enter Try.func73, Try.ntmps73
    go_wp2_with fail
    refine wp_region_ext none (by kernel_rfl) (by kernel_rfl) ?_
    repeat (go_big_quiet_step (first | (go_at_call 119; first | (with_reducible exact ext_call (HR1.out _)) | (with_reducible exact ext_call (HR2.out _)))))
    refine wpQuiet_nil ?_
    rintro _ ⟨x, rfl⟩
    go_wp2_with fail
    go_ret
    exact ⟨ret_bool (by rw [Bool.eq_iff_iff]; simp [okR]; omega), (by repeat (first | with_reducible assumption | with_reducible exact gr_refl _ _ | with_reducible refine kp_alloc ?_ _ | ((with_reducible refine kp_set ?_ ?_ _); rotate_left; focus (dsimp only; omega)) | with_reducible refine kp_ex ?_ _ | with_reducible refine kp_drewN ?_ _ | with_reducible refine kp_drew ?_ | with_reducible refine kp_exr ?_ _ | with_reducible refine kp_exr' ?_ _))⟩
theorem irvalid_t {n d : Int} (h : okR n d = true) (w : World) : Calls Try.prog 69 #[.agg #[.int .i64 n, .int .i64 d]] w fun e w' => e = .returned (.bool true) ∧ w.grownBy w' none := h ▸ irvalid_any n d w
theorem irvalid_f {n d : Int} (h : ¬ okR n d = true) (w : World) : Calls Try.prog 69 #[.agg #[.int .i64 n, .int .i64 d]] w fun e w' => e = .returned (.bool false) ∧ w.grownBy w' none := (Bool.eq_false_iff.2 h) ▸ irvalid_any n d w
theorem srvalid_t {n d : Int} (h : okR n d = true) (w : World) : Calls Try.prog 73 #[.agg #[.int .i64 n, .int .i64 d]] w fun e w' => e = .returned (.bool true) ∧ w.grownBy w' none := h ▸ srvalid_any n d w
theorem srvalid_f {n d : Int} (h : ¬ okR n d = true) (w : World) : Calls Try.prog 73 #[.agg #[.int .i64 n, .int .i64 d]] w fun e w' => e = .returned (.bool false) ∧ w.grownBy w' none := (Bool.eq_false_iff.2 h) ▸ srvalid_any n d w

theorem made_any (n d : Int) (w : World) : Calls Try.prog 72 #[.agg #[.int .i64 n, .int .i64 d]] w fun e w' => e = .returned (.tuple #[.agg #[.int .i64 (orZ (okR n d) n), .int .i64 (orZ (okR n d) d)], .bool (okR n d)]) ∧ w.grownBy w' none := by
  by_cases h : okR n d = true
  · have HV := hide fun W => irvalid_t h W
    rw [h]
    clear h
    go_enter Try.func72, Try.ntmps72
    go_wp2_with fail
    first | refine (ext_call (HV.out _)).mono ?_ | refine (to_ex (HV.out _)).mono ?_
    rintro e w' ⟨rfl, xx, rfl⟩
    go_wp2_with fail
    refine bodyPost_ret (v := .tuple #[.agg #[.int .i64 n, .int .i64 d], .bool true]) (by simp [results, Try.results72, go_sem]) rfl ?_
    exact ⟨by simp [orZ], (by repeat (first | with_reducible assumption | with_reducible exact gr_refl _ _ | with_reducible refine kp_alloc ?_ _ | ((with_reducible refine kp_set ?_ ?_ _); rotate_left; focus (dsimp only; omega)) | with_reducible refine kp_ex ?_ _ | with_reducible refine kp_drewN ?_ _ | with_reducible refine kp_drew ?_ | with_reducible refine kp_exr ?_ _ | with_reducible refine kp_exr' ?_ _))⟩
  · have HV := hide fun W => irvalid_f h W
    rw [Bool.eq_false_iff.2 h]
    clear h
    go_enter Try.func72, Try.ntmps72
    go_wp2_with fail
    first | refine (ext_call (HV.out _)).mono ?_ | refine (to_ex (HV.out _)).mono ?_
    rintro e w' ⟨rfl, xx, rfl⟩
    go_wp2_with fail
    refine bodyPost_ret (v := .tuple #[.agg #[.int .i64 0, .int .i64 0], .bool false]) (by simp [results, Try.results72, go_sem]) rfl ?_
    exact ⟨by simp [orZ], (by repeat (first | with_reducible assumption | with_reducible exact gr_refl _ _ | with_reducible refine kp_alloc ?_ _ | ((with_reducible refine kp_set ?_ ?_ _); rotate_left; focus (dsimp only; omega)) | with_reducible refine kp_ex ?_ _ | with_reducible refine kp_drewN ?_ _ | with_reducible refine kp_drew ?_ | with_reducible refine kp_exr ?_ _ | with_reducible refine kp_exr' ?_ _))⟩

theorem checked_any (n d : Int) (w : World) : Calls Try.prog 76 #[.agg #[.int .i64 n, .int .i64 d]] w fun e w' => e = .returned (.tuple #[.agg #[.int .i64 (orZ (okR n d) n), .int .i64 (orZ (okR n d) d)], .bool (okR n d)]) ∧ w.grownBy w' none := by
  by_cases h : okR n d = true
  · have HV := hide fun W => srvalid_t h W
    rw [h]
    clear h
    go_enter Try.func76, Try.ntmps76
    go_wp2_with fail
    first | refine (ext_call (HV.out _)).mono ?_ | refine (to_ex (HV.out _)).mono ?_
    rintro e w' ⟨rfl, xx, rfl⟩
    go_wp2_with fail
    refine bodyPost_ret (v := .tuple #[.agg #[.int .i64 n, .int .i64 d], .bool true]) (by simp [results, Try.results76, go_sem]) rfl ?_
    exact ⟨by simp [orZ], (by repeat (first | with_reducible assumption | with_reducible exact gr_refl _ _ | with_reducible refine kp_alloc ?_ _ | ((with_reducible refine kp_set ?_ ?_ _); rotate_left; focus (dsimp only; omega)) | with_reducible refine kp_ex ?_ _ | with_reducible refine kp_drewN ?_ _ | with_reducible refine kp_drew ?_ | with_reducible refine kp_exr ?_ _ | with_reducible refine kp_exr' ?_ _))⟩
  · have HV := hide fun W => srvalid_f h W
    rw [Bool.eq_false_iff.2 h]
    clear h
    go_enter Try.func76, Try.ntmps76
    go_wp2_with fail
    first | refine (ext_call (HV.out _)).mono ?_ | refine (to_ex (HV.out _)).mono ?_
    rintro e w' ⟨rfl, xx, rfl⟩
    go_wp2_with fail
    refine bodyPost_ret (v := .tuple #[.agg #[.int .i64 0, .int .i64 0], .bool false]) (by simp [results, Try.results76, go_sem]) rfl ?_
    exact ⟨by simp [orZ], (by repeat (first | with_reducible assumption | with_reducible exact gr_refl _ _ | with_reducible refine kp_alloc ?_ _ | ((with_reducible refine kp_set ?_ ?_ _); rotate_left; focus (dsimp only; omega)) | with_reducible refine kp_ex ?_ _ | with_reducible refine kp_drewN ?_ _ | with_reducible refine kp_drew ?_ | with_reducible refine kp_exr ?_ _ | with_reducible refine kp_exr' ?_ _))⟩
end Go.Proofs.Ytndkhbilefljnaa
