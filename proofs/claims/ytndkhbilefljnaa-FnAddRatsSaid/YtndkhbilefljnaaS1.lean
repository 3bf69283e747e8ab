/- Contracts: the reference's functions on points. -/
import Derived.Test.YtndkhbilefljnaaP3
namespace Go.Proofs.Ytndkhbilefljnaa
open Go.RowKit

theorem inRange_any (n a b : Int) (w : World) :
    Calls Try.prog 119 #[.int .i64 n, .int .i64 a, .int .i64 b] w fun e w' => e = .returned (.bool (decide (a ≤ n) && decide (n ≤ b))) ∧ w = w' := by
  go_enter Try.func119, Try.ntmps119
  go_wp2
  all_goals (go_ret; refine ⟨?_, rfl⟩; congr 1; congr 1; simp; try omega)
theorem svalid_any (x y : Int) (w : World) :
    Calls Try.prog 93 #[.agg #[.int .i64 x, .int .i64 y]] w fun e w' => e = .returned (.bool (okP x y)) ∧ w.grownBy w' none := by
  go_enter Try.func93, Try.ntmps93
  go_wp2_with (go_at_call 119; refine (inRange_any _ _ _ _).mono ?_; rintro e w' ⟨rfl, rfl⟩)
  all_goals (go_ret; refine ⟨?_, kp_alloc (gr_refl _ _) _⟩; exact ret_bool (by unfold okP; rw [Bool.eq_iff_iff]; simp; try omega))
theorem svalid_t {x y : Int} (h : okP x y = true) (w : World) : Calls Try.prog 93 #[.agg #[.int .i64 x, .int .i64 y]] w fun e w' => e = .returned (.bool true) ∧ w.grownBy w' none := h ▸ svalid_any x y w
theorem svalid_f {x y : Int} (h : ¬ okP x y = true) (w : World) : Calls Try.prog 93 #[.agg #[.int .i64 x, .int .i64 y]] w fun e w' => e = .returned (.bool false) ∧ w.grownBy w' none := (Bool.eq_false_iff.2 h) ▸ svalid_any x y w

theorem ssign_any (a : Int) (w : World) : Calls Try.prog 107 #[.int .i64 a] w fun e w' => e = .returned (.int .i64 (sgn a)) ∧ w.grownBy w' none := by
  by_cases h1 : a < 0
  · go_enter Try.func107, Try.ntmps107
    go_wp2
    go_ret
    exact ⟨ret_int (by unfold sgn; rw [if_pos h1]), gr_refl w none⟩
  · by_cases h2 : 0 < a
    · go_enter Try.func107, Try.ntmps107
      go_wp2
      go_ret
      exact ⟨ret_int (by unfold sgn; rw [if_neg (by omega), if_pos h2]), gr_refl w none⟩
    · go_enter Try.func107, Try.ntmps107
      go_wp2
      go_ret
      exact ⟨ret_int (by unfold sgn; rw [if_neg (by omega), if_neg (by omega)]), gr_refl w none⟩

theorem scross_any (ax ay bx bY cx cy : Int) (w : World) (m0 : -100000 ≤ ax) (m0' : ax ≤ 100000) (m1 : -100000 ≤ ay) (m1' : ay ≤ 100000) (m2 : -100000 ≤ bx) (m2' : bx ≤ 100000) (m3 : -100000 ≤ bY) (m3' : bY ≤ 100000) (m4 : -100000 ≤ cx) (m4' : cx ≤ 100000) (m5 : -100000 ≤ cy) (m5' : cy ≤ 100000) :
    Calls Try.prog 108 #[.agg #[.int .i64 ax, .int .i64 ay], .agg #[.int .i64 bx, .int .i64 bY], .agg #[.int .i64 cx, .int .i64 cy]] w fun e w' => e = .returned (.int .i64 (trn ax ay bx bY cx cy)) ∧ w.grownBy w' none := by
  obtain ⟨mb1a, mb1b⟩ := mul_bd (bx - ax) (cy - ay) (200000) (200000) (by omega) (by omega) (by omega) (by omega)
  obtain ⟨mb2a, mb2b⟩ := mul_bd (bY - ay) (cx - ax) (200000) (200000) (by omega) (by omega) (by omega) (by omega)
  unfold trn
  go_enter Try.func108, Try.ntmps108
  go_wp2_with fail
  go_ret
  exact ⟨rfl, (by repeat (first | with_reducible assumption | with_reducible exact gr_refl _ _ | with_reducible refine kp_alloc ?_ _ | ((with_reducible refine kp_set ?_ ?_ _); rotate_left; focus (dsimp only; omega)) | with_reducible refine kp_ex ?_ _ | with_reducible refine kp_drewN ?_ _ | with_reducible refine kp_drew ?_ | with_reducible refine kp_exr ?_ _ | with_reducible refine kp_exr' ?_ _))⟩

theorem ssquare_any (ax ay bx bY : Int) (w : World) (m0 : -100000 ≤ ax) (m0' : ax ≤ 100000) (m1 : -100000 ≤ ay) (m1' : ay ≤ 100000) (m2 : -100000 ≤ bx) (m2' : bx ≤ 100000) (m3 : -100000 ≤ bY) (m3' : bY ≤ 100000) :
    Calls Try.prog 102 #[.agg #[.int .i64 ax, .int .i64 ay], .agg #[.int .i64 bx, .int .i64 bY]] w fun e w' => e = .returned (.int .i64 (dot2 (ax - bx) (ay - bY))) ∧ w.grownBy w' none := by
  obtain ⟨mb3a, mb3b⟩ := mul_bd (ax - bx) (ax - bx) (200000) (200000) (by omega) (by omega) (by omega) (by omega)
  obtain ⟨mb4a, mb4b⟩ := mul_bd (ay - bY) (ay - bY) (200000) (200000) (by omega) (by omega) (by omega) (by omega)
  unfold dot2
  go_enter Try.func102, Try.ntmps102
  go_wp2_with fail
  go_ret
  exact ⟨rfl, (by repeat (first | with_reducible assumption | with_reducible exact gr_refl _ _ | with_reducible refine kp_alloc ?_ _ | ((with_reducible refine kp_set ?_ ?_ _); rotate_left; focus (dsimp only; omega)) | with_reducible refine kp_ex ?_ _ | with_reducible refine kp_drewN ?_ _ | with_reducible refine kp_drew ?_ | with_reducible refine kp_exr ?_ _ | with_reducible refine kp_exr' ?_ _))⟩

/-- What Orient returns. -/
def ori (ax ay bx bY cx cy : Int) : Int := if (okP ax ay && okP bx bY && okP cx cy) = true then sgn (trn ax ay bx bY cx cy) else 2

theorem sorient_any (ax ay bx bY cx cy : Int) (w : World) :
    Calls Try.prog 41 #[.agg #[.int .i64 ax, .int .i64 ay], .agg #[.int .i64 bx, .int .i64 bY], .agg #[.int .i64 cx, .int .i64 cy]] w fun e w' => e = .returned (.int .i64 (ori ax ay bx bY cx cy)) ∧ w.grownBy w' none := by
  generalize ho : ori ax ay bx bY cx cy = o
  unfold ori at ho
  have HO := hide ho
  clear ho
  by_cases h1 : okP ax ay = true
  · by_cases h2 : okP bx bY = true
    · by_cases h3 : okP cx cy = true
      · have a1 := okP_bd h1
        have b1 := okP_bd h2
        have c1 := okP_bd h3
        have H := hide (And.intro h1 (And.intro h2 h3))
        clear h1 h2 h3
        go_enter Try.func41, Try.ntmps41
        go_wp2_with fail
        first | refine (ext_call (svalid_t H.out.1 _)).mono ?_ | refine (to_ex (svalid_t H.out.1 _)).mono ?_
        rintro e w' ⟨rfl, xx, rfl⟩
        go_wp2_with fail
        first | refine (ext_call (svalid_t H.out.2.1 _)).mono ?_ | refine (to_ex (svalid_t H.out.2.1 _)).mono ?_
        rintro e w' ⟨rfl, xx, rfl⟩
        go_wp2_with fail
        first | refine (ext_call (svalid_t H.out.2.2 _)).mono ?_ | refine (to_ex (svalid_t H.out.2.2 _)).mono ?_
        rintro e w' ⟨rfl, xx, rfl⟩
        go_wp2_with fail
        first | refine (ext_call (scross_any ax ay bx bY cx cy _ (by omega) (by omega) (by omega) (by omega) (by omega) (by omega) (by omega) (by omega) (by omega) (by omega) (by omega) (by omega))).mono ?_ | refine (to_ex (scross_any ax ay bx bY cx cy _ (by omega) (by omega) (by omega) (by omega) (by omega) (by omega) (by omega) (by omega) (by omega) (by omega) (by omega) (by omega))).mono ?_
        rintro e w' ⟨rfl, xx, rfl⟩
        go_wp2_with fail
        first | refine (ext_call (ssign_any _ _)).mono ?_ | refine (to_ex (ssign_any _ _)).mono ?_
        rintro e w' ⟨rfl, xx, rfl⟩
        go_wp2_with fail
        go_ret
        exact ⟨ret_int (by rw [← HO.out]; simp [H.out.1, H.out.2.1, H.out.2.2]), (by repeat (first | with_reducible assumption | with_reducible exact gr_refl _ _ | with_reducible refine kp_alloc ?_ _ | ((with_reducible refine kp_set ?_ ?_ _); rotate_left; focus (dsimp only; omega)) | with_reducible refine kp_ex ?_ _ | with_reducible refine kp_drewN ?_ _ | with_reducible refine kp_drew ?_ | with_reducible refine kp_exr ?_ _ | with_reducible refine kp_exr' ?_ _))⟩
      · have H := hide (And.intro h1 (And.intro h2 h3))
        clear h1 h2 h3
        go_enter Try.func41, Try.ntmps41
        go_wp2_with fail
        first | refine (ext_call (svalid_t H.out.1 _)).mono ?_ | refine (to_ex (svalid_t H.out.1 _)).mono ?_
        rintro e w' ⟨rfl, xx, rfl⟩
        go_wp2_with fail
        first | refine (ext_call (svalid_t H.out.2.1 _)).mono ?_ | refine (to_ex (svalid_t H.out.2.1 _)).mono ?_
        rintro e w' ⟨rfl, xx, rfl⟩
        go_wp2_with fail
        first | refine (ext_call (svalid_f H.out.2.2 _)).mono ?_ | refine (to_ex (svalid_f H.out.2.2 _)).mono ?_
        rintro e w' ⟨rfl, xx, rfl⟩
        go_wp2_with fail
        go_ret
        exact ⟨ret_int (by rw [← HO.out]; simp [H.out.2.2]), (by repeat (first | with_reducible assumption | with_reducible exact gr_refl _ _ | with_reducible refine kp_alloc ?_ _ | ((with_reducible refine kp_set ?_ ?_ _); rotate_left; focus (dsimp only; omega)) | with_reducible refine kp_ex ?_ _ | with_reducible refine kp_drewN ?_ _ | with_reducible refine kp_drew ?_ | with_reducible refine kp_exr ?_ _ | with_reducible refine kp_exr' ?_ _))⟩
    · have H := hide (And.intro h1 h2)
      clear h1 h2
      go_enter Try.func41, Try.ntmps41
      go_wp2_with fail
      first | refine (ext_call (svalid_t H.out.1 _)).mono ?_ | refine (to_ex (svalid_t H.out.1 _)).mono ?_
      rintro e w' ⟨rfl, xx, rfl⟩
      go_wp2_with fail
      first | refine (ext_call (svalid_f H.out.2 _)).mono ?_ | refine (to_ex (svalid_f H.out.2 _)).mono ?_
      rintro e w' ⟨rfl, xx, rfl⟩
      go_wp2_with fail
      go_ret
      exact ⟨ret_int (by rw [← HO.out]; simp [H.out.2]), (by repeat (first | with_reducible assumption | with_reducible exact gr_refl _ _ | with_reducible refine kp_alloc ?_ _ | ((with_reducible refine kp_set ?_ ?_ _); rotate_left; focus (dsimp only; omega)) | with_reducible refine kp_ex ?_ _ | with_reducible refine kp_drewN ?_ _ | with_reducible refine kp_drew ?_ | with_reducible refine kp_exr ?_ _ | with_reducible refine kp_exr' ?_ _))⟩
  · have H := hide h1
    clear h1
    go_enter Try.func41, Try.ntmps41
    go_wp2_with fail
    first | refine (ext_call (svalid_f H.out _)).mono ?_ | refine (to_ex (svalid_f H.out _)).mono ?_
    rintro e w' ⟨rfl, xx, rfl⟩
    go_wp2_with fail
    go_ret
    exact ⟨ret_int (by rw [← HO.out]; simp [H.out]), (by repeat (first | with_reducible assumption | with_reducible exact gr_refl _ _ | with_reducible refine kp_alloc ?_ _ | ((with_reducible refine kp_set ?_ ?_ _); rotate_left; focus (dsimp only; omega)) | with_reducible refine kp_ex ?_ _ | with_reducible refine kp_drewN ?_ _ | with_reducible refine kp_drew ?_ | with_reducible refine kp_exr ?_ _ | with_reducible refine kp_exr' ?_ _))⟩

/-- The reference's determinant. -/
def circS (ax ay bx bY cx cy dx dy : Int) : Int :=
  ((ax - dx) * (ax - dx) + (ay - dy) * (ay - dy)) * ((bx - dx) * (cy - dy) - (bY - dy) * (cx - dx)) - ((bx - dx) * (bx - dx) + (bY - dy) * (bY - dy)) * ((ax - dx) * (cy - dy) - (ay - dy) * (cx - dx)) + ((cx - dx) * (cx - dx) + (cy - dy) * (cy - dy)) * ((ax - dx) * (bY - dy) - (ay - dy) * (bx - dx))
theorem circS_eq (ax ay bx bY cx cy dx dy : Int) : circS ax ay bx bY cx cy dx dy = circ ax ay bx bY cx cy dx dy := by
  unfold circS circ dot2
  have : (cx - dx) * (ay - dy) - (cy - dy) * (ax - dx) = -((ax - dx) * (cy - dy) - (ay - dy) * (cx - dx)) := by
    rw [Int.mul_comm (cx - dx), Int.mul_comm (cy - dy)]; omega
  rw [this, Int.mul_neg]
  omega

set_option maxHeartbeats 1000000 in
theorem sinCircle_any (ax ay bx bY cx cy dx dy : Int) (w : World) (m0 : -1000 ≤ ax) (m0' : ax ≤ 1000) (m1 : -1000 ≤ ay) (m1' : ay ≤ 1000) (m2 : -1000 ≤ bx) (m2' : bx ≤ 1000) (m3 : -1000 ≤ bY) (m3' : bY ≤ 1000) (m4 : -1000 ≤ cx) (m4' : cx ≤ 1000) (m5 : -1000 ≤ cy) (m5' : cy ≤ 1000) (m6 : -1000 ≤ dx) (m6' : dx ≤ 1000) (m7 : -1000 ≤ dy) (m7' : dy ≤ 1000) :
    Calls Try.prog 111 #[.agg #[.int .i64 ax, .int .i64 ay], .agg #[.int .i64 bx, .int .i64 bY], .agg #[.int .i64 cx, .int .i64 cy], .agg #[.int .i64 dx, .int .i64 dy]] w fun e w' => e = .returned (.int .i64 (sgn (circ ax ay bx bY cx cy dx dy))) ∧ w.grownBy w' none := by
  rw [← circS_eq]
  generalize hd : circS ax ay bx bY cx cy dx dy = det
  unfold circS at hd
  have HD := hide hd
  clear hd
  obtain ⟨e1, e2⟩ := tri_bd (ax - dx) (ay - dy) (bx - dx) (bY - dy) (cx - dx) (cy - dy) (by omega) (by omega) (by omega) (by omega) (by omega) (by omega) (by omega) (by omega) (by omega) (by omega) (by omega) (by omega)
  obtain ⟨e3, e4⟩ := tri_bd (bx - dx) (bY - dy) (ax - dx) (ay - dy) (cx - dx) (cy - dy) (by omega) (by omega) (by omega) (by omega) (by omega) (by omega) (by omega) (by omega) (by omega) (by omega) (by omega) (by omega)
  obtain ⟨e5, e6⟩ := tri_bd (cx - dx) (cy - dy) (ax - dx) (ay - dy) (bx - dx) (bY - dy) (by omega) (by omega) (by omega) (by omega) (by omega) (by omega) (by omega) (by omega) (by omega) (by omega) (by omega) (by omega)
  obtain ⟨mb5a, mb5b⟩ := mul_bd (ax - dx) (ax - dx) (2000) (2000) (by omega) (by omega) (by omega) (by omega)
  obtain ⟨mb6a, mb6b⟩ := mul_bd (ay - dy) (ay - dy) (2000) (2000) (by omega) (by omega) (by omega) (by omega)
  obtain ⟨mb7a, mb7b⟩ := mul_bd (bx - dx) (cy - dy) (2000) (2000) (by omega) (by omega) (by omega) (by omega)
  obtain ⟨mb8a, mb8b⟩ := mul_bd (bY - dy) (cx - dx) (2000) (2000) (by omega) (by omega) (by omega) (by omega)
  obtain ⟨mb9a, mb9b⟩ := mul_bd (bx - dx) (bx - dx) (2000) (2000) (by omega) (by omega) (by omega) (by omega)
  obtain ⟨mb10a, mb10b⟩ := mul_bd (bY - dy) (bY - dy) (2000) (2000) (by omega) (by omega) (by omega) (by omega)
  obtain ⟨mb11a, mb11b⟩ := mul_bd (ax - dx) (cy - dy) (2000) (2000) (by omega) (by omega) (by omega) (by omega)
  obtain ⟨mb12a, mb12b⟩ := mul_bd (ay - dy) (cx - dx) (2000) (2000) (by omega) (by omega) (by omega) (by omega)
  obtain ⟨mb13a, mb13b⟩ := mul_bd (cx - dx) (cx - dx) (2000) (2000) (by omega) (by omega) (by omega) (by omega)
  obtain ⟨mb14a, mb14b⟩ := mul_bd (cy - dy) (cy - dy) (2000) (2000) (by omega) (by omega) (by omega) (by omega)
  obtain ⟨mb15a, mb15b⟩ := mul_bd (ax - dx) (bY - dy) (2000) (2000) (by omega) (by omega) (by omega) (by omega)
  obtain ⟨mb16a, mb16b⟩ := mul_bd (ay - dy) (bx - dx) (2000) (2000) (by omega) (by omega) (by omega) (by omega)
  go_enter Try.func111, Try.ntmps111
  go_wp2_with fail
  rw [HD.out]
  first | refine (ext_call (ssign_any _ _)).mono ?_ | refine (to_ex (ssign_any _ _)).mono ?_
  rintro e w' ⟨rfl, xx, rfl⟩
  go_wp2_with fail
  go_ret
  exact ⟨rfl, (by repeat (first | with_reducible assumption | with_reducible exact gr_refl _ _ | with_reducible refine kp_alloc ?_ _ | ((with_reducible refine kp_set ?_ ?_ _); rotate_left; focus (dsimp only; omega)) | with_reducible refine kp_ex ?_ _ | with_reducible refine kp_drewN ?_ _ | with_reducible refine kp_drew ?_ | with_reducible refine kp_exr ?_ _ | with_reducible refine kp_exr' ?_ _))⟩
end Go.Proofs.Ytndkhbilefljnaa
