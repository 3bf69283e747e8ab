/- InTriangle, SquaredDistance, Cross: the program's and the reference's. -/
import Derived.Test.YtndkhbilefljnaaTr
namespace Go.Proofs.Ytndkhbilefljnaa
open Go.RowKit

/-- What InTriangle returns. -/
def inTri (ax ay bx bY cx cy px py : Int) : Bool := okP ax ay && (okP bx bY && (okP cx cy && (okP px py && triB ax ay bx bY cx cy px py)))

set_option maxHeartbeats 1000000 in
theorem iInTriangle_any (ax ay bx bY cx cy px py : Int) (w : World) :
    Calls Try.prog 34 #[.agg #[.int .i64 ax, .int .i64 ay], .agg #[.int .i64 bx, .int .i64 bY], .agg #[.int .i64 cx, .int .i64 cy], .agg #[.int .i64 px, .int .i64 py]] w fun e w' => e = .returned (.bool (inTri ax ay bx bY cx cy px py)) ∧ w.grownBy w' none := by
  have hv := fun W => allValid_any (some ⟨w.heap.size + 1 + 1 + 1 + 1, 0, none⟩) [(ax, ay), (bx, bY), (cx, cy), (px, py)] 4 W (by simp)
  have ha : allP [(ax, ay), (bx, bY), (cx, cy), (px, py)] = (okP ax ay && (okP bx bY && (okP cx cy && okP px py))) := by unfold allP; simp
  rw [ha] at hv
  clear ha
  by_cases h : (okP ax ay && (okP bx bY && (okP cx cy && okP px py))) = true
  · rw [h] at hv
    have h' := h
    simp only [Bool.and_eq_true] at h'
    obtain ⟨h1, h2, h3, h4⟩ := h'
    have a1 := okP_bd h1
    have b1 := okP_bd h2
    have c1 := okP_bd h3
    have d1 := okP_bd h4
    have H := hide (And.intro h1 (And.intro h2 (And.intro h3 h4)))
    clear h1 h2 h3 h4 h
    have HV := hide hv
    have HT := hide fun W => iinTriangle_any ax ay bx bY cx cy px py W (by omega) (by omega) (by omega) (by omega) (by omega) (by omega) (by omega) (by omega) (by omega) (by omega) (by omega) (by omega) (by omega) (by omega) (by omega) (by omega)
    clear hv
    go_enter Try.func34, Try.ntmps34
    go_wp2_with fail
    first | refine (ext_call (HV.out _ (by exact pts_new _ _ _ _ _ (by simp) rfl))).mono ?_ | refine (to_ex (HV.out _ (by exact pts_new _ _ _ _ _ (by simp) rfl))).mono ?_
    rintro e w' ⟨rfl, xx, rfl⟩
    go_wp2_with fail
    first | refine (ext_call (HT.out _)).mono ?_ | refine (to_ex (HT.out _)).mono ?_
    rintro e w' ⟨rfl, xx, rfl⟩
    go_wp2_with fail
    go_ret
    exact ⟨ret_bool (by simp [inTri, H.out]), (by repeat (first | with_reducible assumption | with_reducible exact gr_refl _ _ | with_reducible refine kp_alloc ?_ _ | ((with_reducible refine kp_set ?_ ?_ _); rotate_left; focus (dsimp only; omega)) | with_reducible refine kp_ex ?_ _ | with_reducible refine kp_drewN ?_ _ | with_reducible refine kp_drew ?_ | with_reducible refine kp_exr ?_ _ | with_reducible refine kp_exr' ?_ _))⟩
  · rw [Bool.eq_false_iff.2 h] at hv
    have HV := hide hv
    have H := hide h
    clear hv h
    go_enter Try.func34, Try.ntmps34
    go_wp2_with fail
    first | refine (ext_call (HV.out _ (by exact pts_new _ _ _ _ _ (by simp) rfl))).mono ?_ | refine (to_ex (HV.out _ (by exact pts_new _ _ _ _ _ (by simp) rfl))).mono ?_
    rintro e w' ⟨rfl, xx, rfl⟩
    go_wp2_with fail
    go_ret
    exact ⟨ret_bool (by have := Bool.eq_false_iff.2 H.out; unfold inTri; revert this; cases okP ax ay <;> cases okP bx bY <;> cases okP cx cy <;> cases okP px py <;> simp), (by repeat (first | with_reducible assumption | with_reducible exact gr_refl _ _ | with_reducible refine kp_alloc ?_ _ | ((with_reducible refine kp_set ?_ ?_ _); rotate_left; focus (dsimp only; omega)) | with_reducible refine kp_ex ?_ _ | with_reducible refine kp_drewN ?_ _ | with_reducible refine kp_drew ?_ | with_reducible refine kp_exr ?_ _ | with_reducible refine kp_exr' ?_ _))⟩

set_option maxHeartbeats 1000000 in
theorem sInTriangle_any (ax ay bx bY cx cy px py : Int) (w : World) :
    Calls Try.prog 59 #[.agg #[.int .i64 ax, .int .i64 ay], .agg #[.int .i64 bx, .int .i64 bY], .agg #[.int .i64 cx, .int .i64 cy], .agg #[.int .i64 px, .int .i64 py]] w fun e w' => e = .returned (.bool (inTri ax ay bx bY cx cy px py)) ∧ w.grownBy w' none := by
  by_cases h0 : okP ax ay = true
  · skip
    by_cases h1 : okP bx bY = true
    · skip
      by_cases h2 : okP cx cy = true
      · skip
        by_cases h3 : okP px py = true
        · skip
          have H := hide (And.intro h0 (And.intro h1 (And.intro h2 h3)))
          have d0 := okP_bd h0
          have d1 := okP_bd h1
          have d2 := okP_bd h2
          have d3 := okP_bd h3
          have HF := hide fun W => sinTriangle_any ax ay bx bY cx cy px py W (by omega) (by omega) (by omega) (by omega) (by omega) (by omega) (by omega) (by omega) (by omega) (by omega) (by omega) (by omega) (by omega) (by omega) (by omega) (by omega)
          clear h0 h1 h2 h3
          go_enter Try.func59, Try.ntmps59
          go_wp2_with fail
          first | refine (ext_call (svalid_t H.out.1 _)).mono ?_ | refine (to_ex (svalid_t H.out.1 _)).mono ?_
          rintro e w' ⟨rfl, xx, rfl⟩
          go_wp2_with fail
          first | refine (ext_call (svalid_t H.out.2.1 _)).mono ?_ | refine (to_ex (svalid_t H.out.2.1 _)).mono ?_
          rintro e w' ⟨rfl, xx, rfl⟩
          go_wp2_with fail
          first | refine (ext_call (svalid_t H.out.2.2.1 _)).mono ?_ | refine (to_ex (svalid_t H.out.2.2.1 _)).mono ?_
          rintro e w' ⟨rfl, xx, rfl⟩
          go_wp2_with fail
          first | refine (ext_call (svalid_t H.out.2.2.2 _)).mono ?_ | refine (to_ex (svalid_t H.out.2.2.2 _)).mono ?_
          rintro e w' ⟨rfl, xx, rfl⟩
          go_wp2_with fail
          first | refine (ext_call (HF.out _)).mono ?_ | refine (to_ex (HF.out _)).mono ?_
          rintro e w' ⟨rfl, xx, rfl⟩
          go_wp2_with fail
          go_ret
          exact ⟨ret_bool (by simp [inTri, H.out]), (by repeat (first | with_reducible assumption | with_reducible exact gr_refl _ _ | with_reducible refine kp_alloc ?_ _ | ((with_reducible refine kp_set ?_ ?_ _); rotate_left; focus (dsimp only; omega)) | with_reducible refine kp_ex ?_ _ | with_reducible refine kp_drewN ?_ _ | with_reducible refine kp_drew ?_ | with_reducible refine kp_exr ?_ _ | with_reducible refine kp_exr' ?_ _))⟩
        · skip
          have H := hide (And.intro h0 (And.intro h1 (And.intro h2 h3)))
          clear h0 h1 h2 h3
          go_enter Try.func59, Try.ntmps59
          go_wp2_with fail
          first | refine (ext_call (svalid_t H.out.1 _)).mono ?_ | refine (to_ex (svalid_t H.out.1 _)).mono ?_
          rintro e w' ⟨rfl, xx, rfl⟩
          go_wp2_with fail
          first | refine (ext_call (svalid_t H.out.2.1 _)).mono ?_ | refine (to_ex (svalid_t H.out.2.1 _)).mono ?_
          rintro e w' ⟨rfl, xx, rfl⟩
          go_wp2_with fail
          first | refine (ext_call (svalid_t H.out.2.2.1 _)).mono ?_ | refine (to_ex (svalid_t H.out.2.2.1 _)).mono ?_
          rintro e w' ⟨rfl, xx, rfl⟩
          go_wp2_with fail
          first | refine (ext_call (svalid_f H.out.2.2.2 _)).mono ?_ | refine (to_ex (svalid_f H.out.2.2.2 _)).mono ?_
          rintro e w' ⟨rfl, xx, rfl⟩
          go_wp2_with fail
          go_ret
          exact ⟨ret_bool (by simp [inTri, H.out]), (by repeat (first | with_reducible assumption | with_reducible exact gr_refl _ _ | with_reducible refine kp_alloc ?_ _ | ((with_reducible refine kp_set ?_ ?_ _); rotate_left; focus (dsimp only; omega)) | with_reducible refine kp_ex ?_ _ | with_reducible refine kp_drewN ?_ _ | with_reducible refine kp_drew ?_ | with_reducible refine kp_exr ?_ _ | with_reducible refine kp_exr' ?_ _))⟩
      · skip
        have H := hide (And.intro h0 (And.intro h1 h2))
        clear h0 h1 h2
        go_enter Try.func59, Try.ntmps59
        go_wp2_with fail
        first | refine (ext_call (svalid_t H.out.1 _)).mono ?_ | refine (to_ex (svalid_t H.out.1 _)).mono ?_
        rintro e w' ⟨rfl, xx, rfl⟩
        go_wp2_with fail
        first | refine (ext_call (svalid_t H.out.2.1 _)).mono ?_ | refine (to_ex (svalid_t H.out.2.1 _)).mono ?_
        rintro e w' ⟨rfl, xx, rfl⟩
        go_wp2_with fail
        first | refine (ext_call (svalid_f H.out.2.2 _)).mono ?_ | refine (to_ex (svalid_f H.out.2.2 _)).mono ?_
        rintro e w' ⟨rfl, xx, rfl⟩
        go_wp2_with fail
        go_ret
        exact ⟨ret_bool (by simp [inTri, H.out]), (by repeat (first | with_reducible assumption | with_reducible exact gr_refl _ _ | with_reducible refine kp_alloc ?_ _ | ((with_reducible refine kp_set ?_ ?_ _); rotate_left; focus (dsimp only; omega)) | with_reducible refine kp_ex ?_ _ | with_reducible refine kp_drewN ?_ _ | with_reducible refine kp_drew ?_ | with_reducible refine kp_exr ?_ _ | with_reducible refine kp_exr' ?_ _))⟩
    · skip
      have H := hide (And.intro h0 h1)
      clear h0 h1
      go_enter Try.func59, Try.ntmps59
      go_wp2_with fail
      first | refine (ext_call (svalid_t H.out.1 _)).mono ?_ | refine (to_ex (svalid_t H.out.1 _)).mono ?_
      rintro e w' ⟨rfl, xx, rfl⟩
      go_wp2_with fail
      first | refine (ext_call (svalid_f H.out.2 _)).mono ?_ | refine (to_ex (svalid_f H.out.2 _)).mono ?_
      rintro e w' ⟨rfl, xx, rfl⟩
      go_wp2_with fail
      go_ret
      exact ⟨ret_bool (by simp [inTri, H.out]), (by repeat (first | with_reducible assumption | with_reducible exact gr_refl _ _ | with_reducible refine kp_alloc ?_ _ | ((with_reducible refine kp_set ?_ ?_ _); rotate_left; focus (dsimp only; omega)) | with_reducible refine kp_ex ?_ _ | with_reducible refine kp_drewN ?_ _ | with_reducible refine kp_drew ?_ | with_reducible refine kp_exr ?_ _ | with_reducible refine kp_exr' ?_ _))⟩
  · skip
    have H := hide h0
    clear h0
    go_enter Try.func59, Try.ntmps59
    go_wp2_with fail
    first | refine (ext_call (svalid_f H.out _)).mono ?_ | refine (to_ex (svalid_f H.out _)).mono ?_
    rintro e w' ⟨rfl, xx, rfl⟩
    go_wp2_with fail
    go_ret
    exact ⟨ret_bool (by simp [inTri, H.out]), (by repeat (first | with_reducible assumption | with_reducible exact gr_refl _ _ | with_reducible refine kp_alloc ?_ _ | ((with_reducible refine kp_set ?_ ?_ _); rotate_left; focus (dsimp only; omega)) | with_reducible refine kp_ex ?_ _ | with_reducible refine kp_drewN ?_ _ | with_reducible refine kp_drew ?_ | with_reducible refine kp_exr ?_ _ | with_reducible refine kp_exr' ?_ _))⟩

/-- What SquaredDistance returns. -/
def sqd (ax ay bx bY : Int) : Int := if (okP ax ay && okP bx bY) = true then dot2 (ax - bx) (ay - bY) else -1
theorem far_any (ax ay bx bY : Int) (w : World) (m0 : -100000 ≤ ax) (m0' : ax ≤ 100000) (m1 : -100000 ≤ ay) (m1' : ay ≤ 100000) (m2 : -100000 ≤ bx) (m2' : bx ≤ 100000) (m3 : -100000 ≤ bY) (m3' : bY ≤ 100000) :
    Calls Try.prog 96 #[.agg #[.int .i64 ax, .int .i64 ay], .agg #[.int .i64 bx, .int .i64 bY]] w fun e w' => e = .returned (.int .i64 (dot2 (ax - bx) (ay - bY))) ∧ w.grownBy w' none := by
  have e : dot2 (ax - bx) (ay - bY) = (bx - ax) * (bx - ax) + (bY - ay) * (bY - ay) := by unfold dot2; grind
  rw [e]
  clear e
  go_enter Try.func96, Try.ntmps96
  go_wp2_with fail
  refine wp_region_ext none (by kernel_rfl) (by kernel_rfl) ?_
  repeat (go_big_quiet_step (first | (go_at_call 131; exact ext_call (minus_any _ _ _ _ _ (by omega) (by omega) (by omega) (by omega) (by omega) (by omega) (by omega) (by omega))) | (go_at_call 132; exact ext_call (dot_any _ _ _ _ _ (by omega) (by omega) (by omega) (by omega) (by omega) (by omega) (by omega) (by omega)))))
  refine wpQuiet_nil ?_
  rintro _ ⟨x, rfl⟩
  go_wp2_with fail
  go_ret
  exact ⟨rfl, (by repeat (first | with_reducible assumption | with_reducible exact gr_refl _ _ | with_reducible refine kp_alloc ?_ _ | ((with_reducible refine kp_set ?_ ?_ _); rotate_left; focus (dsimp only; omega)) | with_reducible refine kp_ex ?_ _ | with_reducible refine kp_drewN ?_ _ | with_reducible refine kp_drew ?_ | with_reducible refine kp_exr ?_ _ | with_reducible refine kp_exr' ?_ _))⟩
theorem iSquared_any (ax ay bx bY : Int) (w : World) :
    Calls Try.prog 33 #[.agg #[.int .i64 ax, .int .i64 ay], .agg #[.int .i64 bx, .int .i64 bY]] w fun e w' => e = .returned (.int .i64 (sqd ax ay bx bY)) ∧ w.grownBy w' none := by
  have hv := fun W => allValid_any (some ⟨w.heap.size + 1 + 1, 0, none⟩) [(ax, ay), (bx, bY)] 2 W (by simp)
  have ha : allP [(ax, ay), (bx, bY)] = (okP ax ay && okP bx bY) := by unfold allP; simp
  rw [ha] at hv
  clear ha
  by_cases h : (okP ax ay && okP bx bY) = true
  · rw [h] at hv
    have hs : sqd ax ay bx bY = dot2 (ax - bx) (ay - bY) := if_pos h
    rw [hs]
    simp only [Bool.and_eq_true] at h
    have a1 := okP_bd h.1
    have b1 := okP_bd h.2
    have HV := hide hv
    have HF := hide fun W => far_any ax ay bx bY W (by omega) (by omega) (by omega) (by omega) (by omega) (by omega) (by omega) (by omega)
    clear hv h hs
    go_enter Try.func33, Try.ntmps33
    go_wp2_with fail
    first | refine (ext_call (HV.out _ (by exact pts_new _ _ _ _ _ (by simp) rfl))).mono ?_ | refine (to_ex (HV.out _ (by exact pts_new _ _ _ _ _ (by simp) rfl))).mono ?_
    rintro e w' ⟨rfl, xx, rfl⟩
    go_wp2_with fail
    first | refine (ext_call (HF.out _)).mono ?_ | refine (to_ex (HF.out _)).mono ?_
    rintro e w' ⟨rfl, xx, rfl⟩
    go_wp2_with fail
    go_ret
    exact ⟨rfl, (by repeat (first | with_reducible assumption | with_reducible exact gr_refl _ _ | with_reducible refine kp_alloc ?_ _ | ((with_reducible refine kp_set ?_ ?_ _); rotate_left; focus (dsimp only; omega)) | with_reducible refine kp_ex ?_ _ | with_reducible refine kp_drewN ?_ _ | with_reducible refine kp_drew ?_ | with_reducible refine kp_exr ?_ _ | with_reducible refine kp_exr' ?_ _))⟩
  · have hs : sqd ax ay bx bY = -1 := if_neg h
    rw [hs]
    rw [Bool.eq_false_iff.2 h] at hv
    have HV := hide hv
    clear hv h hs
    go_enter Try.func33, Try.ntmps33
    go_wp2_with fail
    first | refine (ext_call (HV.out _ (by exact pts_new _ _ _ _ _ (by simp) rfl))).mono ?_ | refine (to_ex (HV.out _ (by exact pts_new _ _ _ _ _ (by simp) rfl))).mono ?_
    rintro e w' ⟨rfl, xx, rfl⟩
    go_wp2_with fail
    go_ret
    exact ⟨rfl, (by repeat (first | with_reducible assumption | with_reducible exact gr_refl _ _ | with_reducible refine kp_alloc ?_ _ | ((with_reducible refine kp_set ?_ ?_ _); rotate_left; focus (dsimp only; omega)) | with_reducible refine kp_ex ?_ _ | with_reducible refine kp_drewN ?_ _ | with_reducible refine kp_drew ?_ | with_reducible refine kp_exr ?_ _ | with_reducible refine kp_exr' ?_ _))⟩

/-- What Cross returns. -/
def crs (ax ay bx bY cx cy : Int) : Int := if (okP ax ay && (okP bx bY && okP cx cy)) = true then trn ax ay bx bY cx cy else 0
theorem iCross_any (ax ay bx bY cx cy : Int) (w : World) :
    Calls Try.prog 44 #[.agg #[.int .i64 ax, .int .i64 ay], .agg #[.int .i64 bx, .int .i64 bY], .agg #[.int .i64 cx, .int .i64 cy]] w fun e w' => e = .returned (.int .i64 (crs ax ay bx bY cx cy)) ∧ w.grownBy w' none := by
  have hv := fun W => allValid_any (some ⟨w.heap.size + 1 + 1 + 1, 0, none⟩) [(ax, ay), (bx, bY), (cx, cy)] 3 W (by simp)
  have ha : allP [(ax, ay), (bx, bY), (cx, cy)] = (okP ax ay && (okP bx bY && okP cx cy)) := by unfold allP; simp
  rw [ha] at hv
  clear ha
  by_cases h : (okP ax ay && (okP bx bY && okP cx cy)) = true
  · rw [h] at hv
    have hs : crs ax ay bx bY cx cy = trn ax ay bx bY cx cy := if_pos h
    rw [hs]
    simp only [Bool.and_eq_true] at h
    have a1 := okP_bd h.1
    have b1 := okP_bd h.2.1
    have c1 := okP_bd h.2.2
    have HV := hide hv
    have HF := hide fun W => turn_any ax ay bx bY cx cy W (by omega) (by omega) (by omega) (by omega) (by omega) (by omega) (by omega) (by omega) (by omega) (by omega) (by omega) (by omega)
    clear hv h hs
    go_enter Try.func44, Try.ntmps44
    go_wp2_with fail
    first | refine (ext_call (HV.out _ (by exact pts_new _ _ _ _ _ (by simp) rfl))).mono ?_ | refine (to_ex (HV.out _ (by exact pts_new _ _ _ _ _ (by simp) rfl))).mono ?_
    rintro e w' ⟨rfl, xx, rfl⟩
    go_wp2_with fail
    first | refine (ext_call (HF.out _)).mono ?_ | refine (to_ex (HF.out _)).mono ?_
    rintro e w' ⟨rfl, xx, rfl⟩
    go_wp2_with fail
    go_ret
    exact ⟨rfl, (by repeat (first | with_reducible assumption | with_reducible exact gr_refl _ _ | with_reducible refine kp_alloc ?_ _ | ((with_reducible refine kp_set ?_ ?_ _); rotate_left; focus (dsimp only; omega)) | with_reducible refine kp_ex ?_ _ | with_reducible refine kp_drewN ?_ _ | with_reducible refine kp_drew ?_ | with_reducible refine kp_exr ?_ _ | with_reducible refine kp_exr' ?_ _))⟩
  · have hs : crs ax ay bx bY cx cy = 0 := if_neg h
    rw [hs]
    rw [Bool.eq_false_iff.2 h] at hv
    have HV := hide hv
    clear hv h hs
    go_enter Try.func44, Try.ntmps44
    go_wp2_with fail
    first | refine (ext_call (HV.out _ (by exact pts_new _ _ _ _ _ (by simp) rfl))).mono ?_ | refine (to_ex (HV.out _ (by exact pts_new _ _ _ _ _ (by simp) rfl))).mono ?_
    rintro e w' ⟨rfl, xx, rfl⟩
    go_wp2_with fail
    go_ret
    exact ⟨rfl, (by repeat (first | with_reducible assumption | with_reducible exact gr_refl _ _ | with_reducible refine kp_alloc ?_ _ | ((with_reducible refine kp_set ?_ ?_ _); rotate_left; focus (dsimp only; omega)) | with_reducible refine kp_ex ?_ _ | with_reducible refine kp_drewN ?_ _ | with_reducible refine kp_drew ?_ | with_reducible refine kp_exr ?_ _ | with_reducible refine kp_exr' ?_ _))⟩
theorem iValidPoint_any (x y : Int) (w : World) : Calls Try.prog 60 #[.agg #[.int .i64 x, .int .i64 y]] w fun e w' => e = .returned (.bool (okP x y)) ∧ w.grownBy w' none := by
  go_enter Try.func60, Try.ntmps60
  go_wp2_with fail
  first | refine (ext_call (pvalid_any x y _)).mono ?_ | refine (to_ex (pvalid_any x y _)).mono ?_
  rintro e w' ⟨rfl, xx, rfl⟩
  go_wp2_with fail
  go_ret
  exact ⟨rfl, (by repeat (first | with_reducible assumption | with_reducible exact gr_refl _ _ | with_reducible refine kp_alloc ?_ _ | ((with_reducible refine kp_set ?_ ?_ _); rotate_left; focus (dsimp only; omega)) | with_reducible refine kp_ex ?_ _ | with_reducible refine kp_drewN ?_ _ | with_reducible refine kp_drew ?_ | with_reducible refine kp_exr ?_ _ | with_reducible refine kp_exr' ?_ _))⟩
end Go.Proofs.Ytndkhbilefljnaa
