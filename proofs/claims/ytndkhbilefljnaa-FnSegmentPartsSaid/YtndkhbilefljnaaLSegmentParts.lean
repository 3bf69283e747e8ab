/- FnSegmentParts: the walk. -/
import Derived.Test.YtndkhbilefljnaaDr3
import Derived.Test.YtndkhbilefljnaaTr2
namespace Go.Proofs.Ytndkhbilefljnaa.FnSegmentParts
open Go.RowKit

theorem sq_nn (z : Int) : 0 ≤ z * z := by
  rcases Int.le_total 0 z with h | h
  · exact Int.mul_nonneg h h
  · have := Int.mul_nonneg (show 0 ≤ -z by omega) (show 0 ≤ -z by omega)
    rwa [Int.neg_mul_neg] at this
theorem plain (ax ay bx bY px py : Int) (h : onSeg ax ay bx bY px py = true) : sqd ax ay px py ≤ sqd ax ay bx bY ∧ sqd bx bY px py ≤ sqd ax ay bx bY ∧ inTri ax ay bx bY bx bY px py = true := by
  unfold onSeg at h
  simp only [Bool.and_eq_true] at h
  obtain ⟨h1, h2, h3⟩ := h
  obtain ⟨v1, v2, _⟩ := okS_bd h1
  have h3' := h3
  unfold onB at h3'
  simp only [Bool.and_eq_true, decide_eq_true_eq] at h3'
  have e : dot2 (ax - bx) (ay - bY) = dot2 (ax - px) (ay - py) + dot2 (bx - px) (bY - py) - 2 * dotp ax ay bx bY px py := by unfold dot2 dotp; grind
  have n1 : 0 ≤ dot2 (ax - px) (ay - py) := by
    have := sq_nn (ax - px)
    have := sq_nn (ay - py)
    unfold dot2; omega
  have n2 : 0 ≤ dot2 (bx - px) (bY - py) := by
    have := sq_nn (bx - px)
    have := sq_nn (bY - py)
    unfold dot2; omega
  have e1 : sqd ax ay px py = dot2 (ax - px) (ay - py) := if_pos (by simp [v1, h2])
  have e2 : sqd bx bY px py = dot2 (bx - px) (bY - py) := if_pos (by simp [v2, h2])
  have e3 : sqd ax ay bx bY = dot2 (ax - bx) (ay - bY) := if_pos (by simp [v1, v2])
  refine ⟨by rw [e1, e3]; omega, by rw [e2, e3]; omega, ?_⟩
  have e4 : triB ax ay bx bY bx bY px py = true := by
    unfold triB
    rw [if_pos (by unfold trn; grind), h3]
    rfl
  unfold inTri
  rw [e4]
  simp [v1, v2, h2]

set_option maxHeartbeats 1000000 in
theorem walk : Walk1 5 := by
  intro A m c w hc
  by_cases hm : m ≤ 1048576
  · go_enter Try.func5, Try.ntmps5
    go_wp2_with fail
    refine (drawOnSegment_any A m c w hc hm).mono ?_
    rintro e w1 ⟨ax, ay, bx, bY, px, py, _, _, _, _, _, _, rfl, K⟩
    have H1 := hide fun W => iOnSegment_any ax ay bx bY px py W
    have H2 := hide fun W => sOnSegment_any ax ay bx bY px py W
    have H3 := hide fun W => iSquared_any ax ay bx bY W
    have H4 := hide fun W => iSquared_any ax ay px py W
    have H5 := hide fun W => iSquared_any bx bY px py W
    have H6 := hide fun W => iInTriangle_any ax ay bx bY bx bY px py W
    by_cases hn : onSeg ax ay bx bY px py = true
    · obtain ⟨p1, p2, p3⟩ := plain ax ay bx bY px py hn
      rw [hn] at H1 H2
      rw [p3] at H6
      generalize sqd ax ay bx bY = n at *
      generalize sqd ax ay px py = n1 at *
      generalize sqd bx bY px py = n2 at *
      clear p3 hc hn
      go_wp2_with fail
      first | refine (ext_call (H1.out _)).mono ?_ | refine (to_ex (H1.out _)).mono ?_
      rintro e w' ⟨rfl, xx, rfl⟩
      go_wp2_with fail
      first | refine (ext_call (H2.out _)).mono ?_ | refine (to_ex (H2.out _)).mono ?_
      rintro e w' ⟨rfl, xx, rfl⟩
      go_wp2_with fail
      first | refine (ext_call (H3.out _)).mono ?_ | refine (to_ex (H3.out _)).mono ?_
      rintro e w' ⟨rfl, xx, rfl⟩
      go_wp2_with fail
      first | refine (ext_call (H4.out _)).mono ?_ | refine (to_ex (H4.out _)).mono ?_
      rintro e w' ⟨rfl, xx, rfl⟩
      go_wp2_with fail
      first | refine (ext_call (H5.out _)).mono ?_ | refine (to_ex (H5.out _)).mono ?_
      rintro e w' ⟨rfl, xx, rfl⟩
      go_wp2_with fail
      first | refine (ext_call (H6.out _)).mono ?_ | refine (to_ex (H6.out _)).mono ?_
      rintro e w' ⟨rfl, xx, rfl⟩
      go_wp2_with fail
      go_ret
      exact ⟨rfl, (by repeat (first | with_reducible assumption | with_reducible exact gr_refl _ _ | with_reducible refine kp_alloc ?_ _ | ((with_reducible refine kp_set ?_ ?_ _); rotate_left; focus (dsimp only; omega)) | with_reducible refine kp_ex ?_ _ | with_reducible refine kp_drewN ?_ _ | with_reducible refine kp_drew ?_ | with_reducible refine kp_exr ?_ _ | with_reducible refine kp_exr' ?_ _))⟩
    · rw [Bool.eq_false_iff.2 hn] at H1 H2
      clear hn hc
      go_wp2_with fail
      first | refine (ext_call (H1.out _)).mono ?_ | refine (to_ex (H1.out _)).mono ?_
      rintro e w' ⟨rfl, xx, rfl⟩
      go_wp2_with fail
      first | refine (ext_call (H2.out _)).mono ?_ | refine (to_ex (H2.out _)).mono ?_
      rintro e w' ⟨rfl, xx, rfl⟩
      go_wp2_with fail
      first | refine (ext_call (H2.out _)).mono ?_ | refine (to_ex (H2.out _)).mono ?_
      rintro e w' ⟨rfl, xx, rfl⟩
      go_wp2_with fail
      go_ret
      exact ⟨rfl, (by repeat (first | with_reducible assumption | with_reducible exact gr_refl _ _ | with_reducible refine kp_alloc ?_ _ | ((with_reducible refine kp_set ?_ ?_ _); rotate_left; focus (dsimp only; omega)) | with_reducible refine kp_ex ?_ _ | with_reducible refine kp_drewN ?_ _ | with_reducible refine kp_drew ?_ | with_reducible refine kp_exr ?_ _ | with_reducible refine kp_exr' ?_ _))⟩
  · have hm' : (1048576 : Int) < (m : Int) := by omega
    go_enter Try.func5, Try.ntmps5
    go_wp2_with fail
    go_ret
    exact ⟨rfl, gr_refl w none⟩
end Go.Proofs.Ytndkhbilefljnaa.FnSegmentParts
