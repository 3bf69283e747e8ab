/- FnInTriangle: the walk. -/
import Derived.Test.YtndkhbilefljnaaDr2
import Derived.Test.YtndkhbilefljnaaTr2
namespace Go.Proofs.Ytndkhbilefljnaa.FnInTriangle
open Go.RowKit

theorem trn_rot (ax ay bx bY cx cy : Int) : trn bx bY cx cy ax ay = trn ax ay bx bY cx cy := by unfold trn; grind
theorem trn_swap (ax ay bx bY cx cy : Int) : trn bx bY ax ay cx cy = -trn ax ay bx bY cx cy := by unfold trn; grind
theorem trn_swap' (ax ay bx bY cx cy : Int) : trn ax ay cx cy bx bY = -trn ax ay bx bY cx cy := by unfold trn; grind
theorem trn_aab (ax ay bx bY : Int) : trn ax ay bx bY ax ay = 0 := by unfold trn; simp
theorem trn_abb (ax ay bx bY : Int) : trn ax ay bx bY bx bY = 0 := by unfold trn; grind
theorem sgn_neg (n : Int) : sgn (-n) = -sgn n := by unfold sgn; split <;> (try split) <;> (try split) <;> (try split) <;> omega
theorem sgn_sq (n : Int) : 0 ≤ sgn n * n := by unfold sgn; split <;> (try split) <;> omega
theorem or_rot (a b c : Bool) : (b || (c || a)) = (a || (b || c)) := by cases a <;> cases b <;> cases c <;> rfl
theorem and_rot (a b c : Bool) : (b && (c && a)) = (a && (b && c)) := by cases a <;> cases b <;> cases c <;> rfl

theorem tri_rot (ax ay bx bY cx cy px py : Int) : triB bx bY cx cy ax ay px py = triB ax ay bx bY cx cy px py := by
  unfold triB
  rw [trn_rot]
  split
  · exact or_rot _ _ _
  · exact and_rot _ _ _
theorem tri_swap (ax ay bx bY cx cy px py : Int) : triB bx bY ax ay cx cy px py = triB ax ay bx bY cx cy px py := by
  unfold triB
  rw [trn_swap]
  by_cases h : trn ax ay bx bY cx cy = 0
  · rw [if_pos (by omega), if_pos h, onB_comm bx bY ax ay, onB_comm ax ay cx cy, onB_comm cx cy bx bY]
    generalize onB ax ay bx bY px py = a
    generalize onB cx cy ax ay px py = b
    generalize onB bx bY cx cy px py = c
    cases a <;> cases b <;> cases c <;> rfl
  · rw [if_neg (by omega), if_neg h, sgn_neg]
    have e1 : trn bx bY ax ay px py = -trn ax ay bx bY px py := trn_swap _ _ _ _ _ _
    have e2 : trn ax ay cx cy px py = -trn cx cy ax ay px py := trn_swap _ _ _ _ _ _
    have e3 : trn cx cy bx bY px py = -trn bx bY cx cy px py := trn_swap _ _ _ _ _ _
    rw [e1, e2, e3, Int.neg_mul_neg, Int.neg_mul_neg, Int.neg_mul_neg]
    generalize decide (0 ≤ sgn (trn ax ay bx bY cx cy) * trn ax ay bx bY px py) = a
    generalize decide (0 ≤ sgn (trn ax ay bx bY cx cy) * trn cx cy ax ay px py) = b
    generalize decide (0 ≤ sgn (trn ax ay bx bY cx cy) * trn bx bY cx cy px py) = c
    cases a <;> cases b <;> cases c <;> rfl
theorem tri_a (ax ay bx bY cx cy : Int) : triB ax ay bx bY cx cy ax ay = true := by
  unfold triB
  split
  · rw [onB_left]; rfl
  · rw [trn_aab, trn_rot ax ay bx bY cx cy, trn_abb]
    have := sgn_sq (trn ax ay bx bY cx cy)
    simp [this]
theorem tri_b (ax ay bx bY cx cy : Int) : triB ax ay bx bY cx cy bx bY = true := by
  rw [← tri_rot]; exact tri_a _ _ _ _ _ _

theorem plain (ax ay bx bY cx cy px py : Int) (h : (okP ax ay && (okP bx bY && okP cx cy)) = true) :
    inTri bx bY cx cy ax ay px py = inTri ax ay bx bY cx cy px py ∧ inTri bx bY ax ay cx cy px py = inTri ax ay bx bY cx cy px py ∧ inTri ax ay bx bY cx cy ax ay = true ∧ inTri ax ay bx bY cx cy bx bY = true := by
  simp only [Bool.and_eq_true] at h
  obtain ⟨h1, h2, h3⟩ := h
  unfold inTri
  rw [tri_rot, tri_swap, tri_a, tri_b]
  simp [h1, h2, h3]

set_option maxHeartbeats 4000000 in
theorem walk : Walk1 12 := by
  intro A m c w hc
  by_cases hm : m ≤ 1048576
  · go_enter Try.func12, Try.ntmps12
    go_wp2_with fail
    refine (drawInTriangle_any A m c w hc hm).mono ?_
    rintro e w1 ⟨ax, ay, bx, bY, cx, cy, px, py, _, _, _, _, _, _, _, _, rfl, K⟩
    have H1 := hide fun W => iInTriangle_any ax ay bx bY cx cy px py W
    have H2 := hide fun W => sInTriangle_any ax ay bx bY cx cy px py W
    have H3 := hide fun W => iInTriangle_any bx bY cx cy ax ay px py W
    have H4 := hide fun W => iInTriangle_any bx bY ax ay cx cy px py W
    have H5 := hide fun W => iInTriangle_any ax ay bx bY cx cy ax ay W
    have H6 := hide fun W => iInTriangle_any ax ay bx bY cx cy bx bY W
    have V1 := hide fun W => iValidPoint_any ax ay W
    have V2 := hide fun W => iValidPoint_any bx bY W
    have V3 := hide fun W => iValidPoint_any cx cy W
    by_cases hn : (okP ax ay && (okP bx bY && okP cx cy)) = true
    · obtain ⟨p1, p2, p3, p4⟩ := plain ax ay bx bY cx cy px py hn
      rw [p1] at H3
      rw [p2] at H4
      rw [p3] at H5
      rw [p4] at H6
      simp only [Bool.and_eq_true] at hn
      rw [hn.1] at V1
      rw [hn.2.1] at V2
      rw [hn.2.2] at V3
      generalize inTri ax ay bx bY cx cy px py = n at *
      clear p1 p2 p3 p4 hc hn
      cases n <;>
      · go_wp2_with fail
        first | refine (ext_call (H1.out _)).mono ?_ | refine (to_ex (H1.out _)).mono ?_
        rintro e w' ⟨rfl, xx, rfl⟩
        go_wp2_with fail
        first | refine (ext_call (H2.out _)).mono ?_ | refine (to_ex (H2.out _)).mono ?_
        rintro e w' ⟨rfl, xx, rfl⟩
        go_wp2_with fail
        first | refine (ext_call (V1.out _)).mono ?_ | refine (to_ex (V1.out _)).mono ?_
        rintro e w' ⟨rfl, xx, rfl⟩
        go_wp2_with fail
        first | refine (ext_call (V2.out _)).mono ?_ | refine (to_ex (V2.out _)).mono ?_
        rintro e w' ⟨rfl, xx, rfl⟩
        go_wp2_with fail
        first | refine (ext_call (V3.out _)).mono ?_ | refine (to_ex (V3.out _)).mono ?_
        rintro e w' ⟨rfl, xx, rfl⟩
        go_wp2_with fail
        first | refine (ext_call (H3.out _)).mono ?_ | refine (to_ex (H3.out _)).mono ?_
        rintro e w' ⟨rfl, xx, rfl⟩
        go_wp2_with fail
        first | refine (ext_call (H4.out _)).mono ?_ | refine (to_ex (H4.out _)).mono ?_
        rintro e w' ⟨rfl, xx, rfl⟩
        go_wp2_with fail
        first | refine (ext_call (H5.out _)).mono ?_ | refine (to_ex (H5.out _)).mono ?_
        rintro e w' ⟨rfl, xx, rfl⟩
        go_wp2_with fail
        first | refine (ext_call (H6.out _)).mono ?_ | refine (to_ex (H6.out _)).mono ?_
        rintro e w' ⟨rfl, xx, rfl⟩
        go_wp2_with fail
        go_ret
        exact ⟨rfl, (by repeat (first | with_reducible assumption | with_reducible exact gr_refl _ _ | with_reducible refine kp_alloc ?_ _ | ((with_reducible refine kp_set ?_ ?_ _); rotate_left; focus (dsimp only; omega)) | with_reducible refine kp_ex ?_ _ | with_reducible refine kp_drewN ?_ _ | with_reducible refine kp_drew ?_ | with_reducible refine kp_exr ?_ _ | with_reducible refine kp_exr' ?_ _))⟩
    · generalize inTri ax ay bx bY cx cy px py = n at *
      clear H3 H4 H5 H6 hc
      by_cases v1 : okP ax ay = true
      · rw [v1] at V1
        by_cases v2 : okP bx bY = true
        · rw [v2] at V2
          have v3 : okP cx cy = false := by simpa [v1, v2] using hn
          rw [v3] at V3
          clear v1 v2 v3 hn
          cases n <;>
          · go_wp2_with fail
            first | refine (ext_call (H1.out _)).mono ?_ | refine (to_ex (H1.out _)).mono ?_
            rintro e w' ⟨rfl, xx, rfl⟩
            go_wp2_with fail
            first | refine (ext_call (H2.out _)).mono ?_ | refine (to_ex (H2.out _)).mono ?_
            rintro e w' ⟨rfl, xx, rfl⟩
            go_wp2_with fail
            first | refine (ext_call (V1.out _)).mono ?_ | refine (to_ex (V1.out _)).mono ?_
            rintro e w' ⟨rfl, xx, rfl⟩
            go_wp2_with fail
            first | refine (ext_call (V2.out _)).mono ?_ | refine (to_ex (V2.out _)).mono ?_
            rintro e w' ⟨rfl, xx, rfl⟩
            go_wp2_with fail
            first | refine (ext_call (V3.out _)).mono ?_ | refine (to_ex (V3.out _)).mono ?_
            rintro e w' ⟨rfl, xx, rfl⟩
            go_wp2_with fail
            first | refine (ext_call (H2.out _)).mono ?_ | refine (to_ex (H2.out _)).mono ?_
            rintro e w' ⟨rfl, xx, rfl⟩
            go_wp2_with fail
            go_ret
            exact ⟨rfl, (by repeat (first | with_reducible assumption | with_reducible exact gr_refl _ _ | with_reducible refine kp_alloc ?_ _ | ((with_reducible refine kp_set ?_ ?_ _); rotate_left; focus (dsimp only; omega)) | with_reducible refine kp_ex ?_ _ | with_reducible refine kp_drewN ?_ _ | with_reducible refine kp_drew ?_ | with_reducible refine kp_exr ?_ _ | with_reducible refine kp_exr' ?_ _))⟩
        · rw [Bool.eq_false_iff.2 v2] at V2
          clear v1 v2 hn
          cases n <;>
          · go_wp2_with fail
            first | refine (ext_call (H1.out _)).mono ?_ | refine (to_ex (H1.out _)).mono ?_
            rintro e w' ⟨rfl, xx, rfl⟩
            go_wp2_with fail
            first | refine (ext_call (H2.out _)).mono ?_ | refine (to_ex (H2.out _)).mono ?_
            rintro e w' ⟨rfl, xx, rfl⟩
            go_wp2_with fail
            first | refine (ext_call (V1.out _)).mono ?_ | refine (to_ex (V1.out _)).mono ?_
            rintro e w' ⟨rfl, xx, rfl⟩
            go_wp2_with fail
            first | refine (ext_call (V2.out _)).mono ?_ | refine (to_ex (V2.out _)).mono ?_
            rintro e w' ⟨rfl, xx, rfl⟩
            go_wp2_with fail
            first | refine (ext_call (H2.out _)).mono ?_ | refine (to_ex (H2.out _)).mono ?_
            rintro e w' ⟨rfl, xx, rfl⟩
            go_wp2_with fail
            go_ret
            exact ⟨rfl, (by repeat (first | with_reducible assumption | with_reducible exact gr_refl _ _ | with_reducible refine kp_alloc ?_ _ | ((with_reducible refine kp_set ?_ ?_ _); rotate_left; focus (dsimp only; omega)) | with_reducible refine kp_ex ?_ _ | with_reducible refine kp_drewN ?_ _ | with_reducible refine kp_drew ?_ | with_reducible refine kp_exr ?_ _ | with_reducible refine kp_exr' ?_ _))⟩
      · rw [Bool.eq_false_iff.2 v1] at V1
        clear v1 hn
        cases n <;>
        · go_wp2_with fail
          first | refine (ext_call (H1.out _)).mono ?_ | refine (to_ex (H1.out _)).mono ?_
          rintro e w' ⟨rfl, xx, rfl⟩
          go_wp2_with fail
          first | refine (ext_call (H2.out _)).mono ?_ | refine (to_ex (H2.out _)).mono ?_
          rintro e w' ⟨rfl, xx, rfl⟩
          go_wp2_with fail
          first | refine (ext_call (V1.out _)).mono ?_ | refine (to_ex (V1.out _)).mono ?_
          rintro e w' ⟨rfl, xx, rfl⟩
          go_wp2_with fail
          first | refine (ext_call (H2.out _)).mono ?_ | refine (to_ex (H2.out _)).mono ?_
          rintro e w' ⟨rfl, xx, rfl⟩
          go_wp2_with fail
          go_ret
          exact ⟨rfl, (by repeat (first | with_reducible assumption | with_reducible exact gr_refl _ _ | with_reducible refine kp_alloc ?_ _ | ((with_reducible refine kp_set ?_ ?_ _); rotate_left; focus (dsimp only; omega)) | with_reducible refine kp_ex ?_ _ | with_reducible refine kp_drewN ?_ _ | with_reducible refine kp_drew ?_ | with_reducible refine kp_exr ?_ _ | with_reducible refine kp_exr' ?_ _))⟩
  · have hm' : (1048576 : Int) < (m : Int) := by omega
    go_enter Try.func12, Try.ntmps12
    go_wp2_with fail
    go_ret
    exact ⟨rfl, gr_refl w none⟩
end Go.Proofs.Ytndkhbilefljnaa.FnInTriangle
