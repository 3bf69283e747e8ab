/- FnInCircle: for every input the law returns true, and the input reads as it did. No condition. -/
import Derived.Test.YtndkhbilefljnaaDr1
import Derived.Test.YtndkhbilefljnaaInC
namespace Go.Proofs.Ytndkhbilefljnaa.FnInCircle
open Go.RowKit

theorem trn_rot (ax ay bx bY cx cy : Int) : trn bx bY cx cy ax ay = trn ax ay bx bY cx cy := by unfold trn; grind
theorem trn_swap (ax ay bx bY cx cy : Int) : trn bx bY ax ay cx cy = -trn ax ay bx bY cx cy := by unfold trn; grind
theorem circ_rot (ax ay bx bY cx cy dx dy : Int) : circ bx bY cx cy ax ay dx dy = circ ax ay bx bY cx cy dx dy := by unfold circ; grind
theorem circ_swap (ax ay bx bY cx cy dx dy : Int) : circ bx bY ax ay cx cy dx dy = -circ ax ay bx bY cx cy dx dy := by unfold circ; grind
theorem circ_a (ax ay bx bY cx cy : Int) : circ ax ay bx bY cx cy ax ay = 0 := by unfold circ dot2; grind
theorem circ_c (ax ay bx bY cx cy : Int) : circ ax ay bx bY cx cy cx cy = 0 := by unfold circ dot2; grind
theorem sgn_neg (n : Int) : sgn (-n) = -sgn n := by unfold sgn; split <;> (try split) <;> (try split) <;> (try split) <;> omega

theorem plain (ax ay bx bY cx cy dx dy : Int) (h : inc ax ay bx bY cx cy dx dy ≠ 2) :
    inc bx bY cx cy ax ay dx dy = inc ax ay bx bY cx cy dx dy ∧ inc bx bY ax ay cx cy dx dy = inc ax ay bx bY cx cy dx dy ∧ inc ax ay bx bY cx cy ax ay = 0 ∧ inc ax ay bx bY cx cy cx cy = 0 := by
  by_cases hc : (okP ax ay && okP bx bY && okP cx cy && okP dx dy) = true ∧ trn ax ay bx bY cx cy ≠ 0
  · have hv := hc.1
    simp only [Bool.and_eq_true] at hv
    obtain ⟨⟨⟨h1, h2⟩, h3⟩, h4⟩ := hv
    have ht := hc.2
    refine ⟨?_, ?_, ?_, ?_⟩
    · unfold inc
      rw [if_pos ⟨by simp [h1, h2, h3, h4], by rw [trn_rot]; exact ht⟩, if_pos hc, trn_rot, circ_rot]
    · unfold inc
      rw [if_pos ⟨by simp [h1, h2, h3, h4], by rw [trn_swap]; omega⟩, if_pos hc, trn_swap, circ_swap, sgn_neg, sgn_neg, Int.neg_mul_neg]
    · unfold inc
      rw [if_pos ⟨by simp [h1, h2, h3], ht⟩, circ_a]
      simp [sgn]
    · unfold inc
      rw [if_pos ⟨by simp [h1, h2, h3], ht⟩, circ_c]
      simp [sgn]
  · exact absurd (if_neg hc) h

set_option maxHeartbeats 1000000 in
theorem walk : Walk1 9 := by
  intro A m c w hc
  by_cases hm : m ≤ 1048576
  · go_enter Try.func9, Try.ntmps9
    go_wp2_with fail
    refine (drawInCircle_any A m c w hc hm).mono ?_
    rintro e w1 ⟨ax, ay, bx, bY, cx, cy, dx, dy, _, _, _, _, _, _, _, _, rfl, K⟩
    have H1 := hide fun W => iInCircle_any ax ay bx bY cx cy dx dy W
    have H2 := hide fun W => sInCircle_any ax ay bx bY cx cy dx dy W
    have H3 := hide fun W => iInCircle_any bx bY cx cy ax ay dx dy W
    have H4 := hide fun W => iInCircle_any bx bY ax ay cx cy dx dy W
    have H5 := hide fun W => iInCircle_any ax ay bx bY cx cy ax ay W
    have H6 := hide fun W => iInCircle_any ax ay bx bY cx cy cx cy W
    by_cases hn : inc ax ay bx bY cx cy dx dy = 2
    · rw [hn] at H1 H2
      clear hn H3 H4 H5 H6 hc
      go_wp2_with fail
      first | refine (ext_call (H1.out _)).mono ?_ | refine (to_ex (H1.out _)).mono ?_
      rintro e w' ⟨rfl, xx, rfl⟩
      go_wp2_with fail
      first | refine (ext_call (H2.out _)).mono ?_ | refine (to_ex (H2.out _)).mono ?_
      rintro e w' ⟨rfl, xx, rfl⟩
      go_wp2_with fail
      first | refine (ext_call (H2.out _)).mono ?_ | refine (to_ex (H2.out _)).mono ?_
      rintro e w' ⟨rfl, xx, rfl⟩
      go_wp2_with fail
      go_ret
      exact ⟨rfl, (by repeat (first | with_reducible assumption | with_reducible exact gr_refl _ _ | with_reducible refine kp_alloc ?_ _ | ((with_reducible refine kp_set ?_ ?_ _); rotate_left; focus (dsimp only; omega)) | with_reducible refine kp_ex ?_ _ | with_reducible refine kp_drewN ?_ _ | with_reducible refine kp_drew ?_ | with_reducible refine kp_exr ?_ _ | with_reducible refine kp_exr' ?_ _))⟩
    · obtain ⟨p1, p2, p3, p4⟩ := plain ax ay bx bY cx cy dx dy hn
      rw [p1] at H3
      rw [p2] at H4
      rw [p3] at H5
      rw [p4] at H6
      generalize inc ax ay bx bY cx cy dx dy = n at *
      have hn' : (n == 2) = false := by simp [hn]
      clear p1 p2 p3 p4 hc
      go_wp2_with fail
      first | refine (ext_call (H1.out _)).mono ?_ | refine (to_ex (H1.out _)).mono ?_
      rintro e w' ⟨rfl, xx, rfl⟩
      go_wp2_with fail
      first | refine (ext_call (H2.out _)).mono ?_ | refine (to_ex (H2.out _)).mono ?_
      rintro e w' ⟨rfl, xx, rfl⟩
      go_wp2_with fail
      first | refine (ext_call (H3.out _)).mono ?_ | refine (to_ex (H3.out _)).mono ?_
      rintro e w' ⟨rfl, xx, rfl⟩
      go_wp2_with fail
      first | refine (ext_call (H4.out _)).mono ?_ | refine (to_ex (H4.out _)).mono ?_
      rintro e w' ⟨rfl, xx, rfl⟩
      go_wp2_with fail
      first | refine (ext_call (H5.out _)).mono ?_ | refine (to_ex (H5.out _)).mono ?_
      rintro e w' ⟨rfl, xx, rfl⟩
      go_wp2_with fail
      first | refine (ext_call (H6.out _)).mono ?_ | refine (to_ex (H6.out _)).mono ?_
      rintro e w' ⟨rfl, xx, rfl⟩
      go_wp2_with fail
      go_ret
      exact ⟨rfl, (by repeat (first | with_reducible assumption | with_reducible exact gr_refl _ _ | with_reducible refine kp_alloc ?_ _ | ((with_reducible refine kp_set ?_ ?_ _); rotate_left; focus (dsimp only; omega)) | with_reducible refine kp_ex ?_ _ | with_reducible refine kp_drewN ?_ _ | with_reducible refine kp_drew ?_ | with_reducible refine kp_exr ?_ _ | with_reducible refine kp_exr' ?_ _))⟩
  · have hm' : (1048576 : Int) < (m : Int) := by omega
    go_enter Try.func9, Try.ntmps9
    go_wp2_with fail
    go_ret
    exact ⟨rfl, gr_refl w none⟩
end Go.Proofs.Ytndkhbilefljnaa.FnInCircle
