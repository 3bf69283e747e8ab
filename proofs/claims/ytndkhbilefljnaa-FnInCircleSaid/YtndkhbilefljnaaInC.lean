/- InCircle: the program's, the reference's, and the law. -/
import Derived.Test.YtndkhbilefljnaaS1
namespace Go.Proofs.Ytndkhbilefljnaa
open Go.RowKit

/-- What InCircle returns. -/
def inc (ax ay bx bY cx cy dx dy : Int) : Int :=
  if (okP ax ay && okP bx bY && okP cx cy && okP dx dy) = true ∧ trn ax ay bx bY cx cy ≠ 0 then sgn (circ ax ay bx bY cx cy dx dy) * sgn (trn ax ay bx bY cx cy) else 2

set_option maxHeartbeats 1000000 in
theorem iInCircle_any (ax ay bx bY cx cy dx dy : Int) (w : World) :
    Calls Try.prog 49 #[.agg #[.int .i64 ax, .int .i64 ay], .agg #[.int .i64 bx, .int .i64 bY], .agg #[.int .i64 cx, .int .i64 cy], .agg #[.int .i64 dx, .int .i64 dy]] w fun e w' => e = .returned (.int .i64 (inc ax ay bx bY cx cy dx dy)) ∧ w.grownBy w' none := by
  have hv := fun W => allValid_any (some ⟨w.heap.size + 1 + 1 + 1 + 1, 0, none⟩) [(ax, ay), (bx, bY), (cx, cy), (dx, dy)] 4 W (by simp)
  generalize ho : inc ax ay bx bY cx cy dx dy = o
  unfold inc at ho
  have ha : allP [(ax, ay), (bx, bY), (cx, cy), (dx, dy)] = (okP ax ay && okP bx bY && okP cx cy && okP dx dy) := by unfold allP; simp [Bool.and_assoc]
  rw [ha] at hv
  clear ha
  by_cases h : (okP ax ay && okP bx bY && okP cx cy && okP dx dy) = true
  · rw [h] at hv ho
    have h' := h
    simp only [Bool.and_eq_true] at h'
    obtain ⟨⟨⟨h1, h2⟩, h3⟩, h4⟩ := h'
    have a1 := okP_bd h1
    have b1 := okP_bd h2
    have c1 := okP_bd h3
    have d1 := okP_bd h4
    clear h1 h2 h3 h4 h
    have HV := hide hv
    have HT := hide fun W => turn_any ax ay bx bY cx cy W (by omega) (by omega) (by omega) (by omega) (by omega) (by omega) (by omega) (by omega) (by omega) (by omega) (by omega) (by omega)
    have HC := hide fun W => iinCircle_any ax ay bx bY cx cy dx dy W (by omega) (by omega) (by omega) (by omega) (by omega) (by omega) (by omega) (by omega) (by omega) (by omega) (by omega) (by omega) (by omega) (by omega) (by omega) (by omega)
    clear hv
    generalize ht : trn ax ay bx bY cx cy = t at HT HC ho
    generalize hd : circ ax ay bx bY cx cy dx dy = det at HC ho
    clear ht hd
    by_cases h0 : t = 0
    · rw [if_neg (by simp [h0])] at ho
      subst h0
      subst ho
      go_enter Try.func49, Try.ntmps49
      go_wp2_with fail
      first | refine (ext_call (HV.out _ (by exact pts_new _ _ _ _ _ (by simp) rfl))).mono ?_ | refine (to_ex (HV.out _ (by exact pts_new _ _ _ _ _ (by simp) rfl))).mono ?_
      rintro e w' ⟨rfl, xx, rfl⟩
      go_wp2_with fail
      first | refine (ext_call (HT.out _)).mono ?_ | refine (to_ex (HT.out _)).mono ?_
      rintro e w' ⟨rfl, xx, rfl⟩
      go_wp2_with fail
      go_ret
      exact ⟨rfl, (by repeat (first | with_reducible assumption | with_reducible exact gr_refl _ _ | with_reducible refine kp_alloc ?_ _ | ((with_reducible refine kp_set ?_ ?_ _); rotate_left; focus (dsimp only; omega)) | with_reducible refine kp_ex ?_ _ | with_reducible refine kp_drewN ?_ _ | with_reducible refine kp_drew ?_ | with_reducible refine kp_exr ?_ _ | with_reducible refine kp_exr' ?_ _))⟩
    · rw [if_pos ⟨rfl, h0⟩] at ho
      subst ho
      have h0' : (t == 0) = false := by simp [h0]
      clear h0
      go_enter Try.func49, Try.ntmps49
      go_wp2_with fail
      first | refine (ext_call (HV.out _ (by exact pts_new _ _ _ _ _ (by simp) rfl))).mono ?_ | refine (to_ex (HV.out _ (by exact pts_new _ _ _ _ _ (by simp) rfl))).mono ?_
      rintro e w' ⟨rfl, xx, rfl⟩
      go_wp2_with fail
      first | refine (ext_call (HT.out _)).mono ?_ | refine (to_ex (HT.out _)).mono ?_
      rintro e w' ⟨rfl, xx, rfl⟩
      go_wp2_with fail
      first | refine (ext_call (HC.out _)).mono ?_ | refine (to_ex (HC.out _)).mono ?_
      rintro e w' ⟨rfl, xx, rfl⟩
      go_wp2_with fail
      go_ret
      exact ⟨rfl, (by repeat (first | with_reducible assumption | with_reducible exact gr_refl _ _ | with_reducible refine kp_alloc ?_ _ | ((with_reducible refine kp_set ?_ ?_ _); rotate_left; focus (dsimp only; omega)) | with_reducible refine kp_ex ?_ _ | with_reducible refine kp_drewN ?_ _ | with_reducible refine kp_drew ?_ | with_reducible refine kp_exr ?_ _ | with_reducible refine kp_exr' ?_ _))⟩
  · rw [if_neg (by simp [h])] at ho
    rw [Bool.eq_false_iff.2 h] at hv
    subst ho
    have HV := hide hv
    clear hv h
    go_enter Try.func49, Try.ntmps49
    go_wp2_with fail
    first | refine (ext_call (HV.out _ (by exact pts_new _ _ _ _ _ (by simp) rfl))).mono ?_ | refine (to_ex (HV.out _ (by exact pts_new _ _ _ _ _ (by simp) rfl))).mono ?_
    rintro e w' ⟨rfl, xx, rfl⟩
    go_wp2_with fail
    go_ret
    exact ⟨rfl, (by repeat (first | with_reducible assumption | with_reducible exact gr_refl _ _ | with_reducible refine kp_alloc ?_ _ | ((with_reducible refine kp_set ?_ ?_ _); rotate_left; focus (dsimp only; omega)) | with_reducible refine kp_ex ?_ _ | with_reducible refine kp_drewN ?_ _ | with_reducible refine kp_drew ?_ | with_reducible refine kp_exr ?_ _ | with_reducible refine kp_exr' ?_ _))⟩

theorem sgn_zero (n : Int) : sgn n = 0 ↔ n = 0 := by unfold sgn; split <;> (try split) <;> constructor <;> intro <;> omega

set_option maxHeartbeats 1000000 in
theorem sInCircle_any (ax ay bx bY cx cy dx dy : Int) (w : World) :
    Calls Try.prog 50 #[.agg #[.int .i64 ax, .int .i64 ay], .agg #[.int .i64 bx, .int .i64 bY], .agg #[.int .i64 cx, .int .i64 cy], .agg #[.int .i64 dx, .int .i64 dy]] w fun e w' => e = .returned (.int .i64 (inc ax ay bx bY cx cy dx dy)) ∧ w.grownBy w' none := by
  generalize ho : inc ax ay bx bY cx cy dx dy = o
  unfold inc at ho
  have HO := hide fun W => sorient_any ax ay bx bY cx cy W
  by_cases h4 : okP dx dy = true
  · by_cases h : (okP ax ay && okP bx bY && okP cx cy) = true
    · have e : ori ax ay bx bY cx cy = sgn (trn ax ay bx bY cx cy) := if_pos h
      rw [e] at HO
      clear e
      have h' := h
      simp only [Bool.and_eq_true] at h'
      obtain ⟨⟨h1, h2⟩, h3⟩ := h'
      have a1 := okP_bd h1
      have b1 := okP_bd h2
      have c1 := okP_bd h3
      have d1 := okP_bd h4
      have HV := hide fun W => svalid_t h4 W
      have HC := hide fun W => sinCircle_any ax ay bx bY cx cy dx dy W (by omega) (by omega) (by omega) (by omega) (by omega) (by omega) (by omega) (by omega) (by omega) (by omega) (by omega) (by omega) (by omega) (by omega) (by omega) (by omega)
      generalize ht : trn ax ay bx bY cx cy = t at HO ho
      generalize hd : circ ax ay bx bY cx cy dx dy = det at HC ho
      have s1 := sgn_bd t
      have s2 := sgn_bd det
      obtain ⟨mb1a, mb1b⟩ := mul_bd (sgn det) (sgn t) (1) (1) (by omega) (by omega) (by omega) (by omega)
      clear ht hd
      by_cases h0 : t = 0
      · rw [if_neg (by simp [h0])] at ho
        have hs : sgn t = 0 := (sgn_zero t).2 h0
        rw [hs] at HO
        subst ho
        clear hs h0 h1 h2 h3 h4 h
        go_enter Try.func50, Try.ntmps50
        go_wp2_with fail
        first | refine (ext_call (HO.out _)).mono ?_ | refine (to_ex (HO.out _)).mono ?_
        rintro e w' ⟨rfl, xx, rfl⟩
        go_wp2_with fail
        first | refine (ext_call (HV.out _)).mono ?_ | refine (to_ex (HV.out _)).mono ?_
        rintro e w' ⟨rfl, xx, rfl⟩
        go_wp2_with fail
        go_ret
        exact ⟨rfl, (by repeat (first | with_reducible assumption | with_reducible exact gr_refl _ _ | with_reducible refine kp_alloc ?_ _ | ((with_reducible refine kp_set ?_ ?_ _); rotate_left; focus (dsimp only; omega)) | with_reducible refine kp_ex ?_ _ | with_reducible refine kp_drewN ?_ _ | with_reducible refine kp_drew ?_ | with_reducible refine kp_exr ?_ _ | with_reducible refine kp_exr' ?_ _))⟩
      · rw [if_pos ⟨by simp [h1, h2, h3, h4], h0⟩] at ho
        have q0 : (sgn t == 0) = false := by simp [sgn_zero, h0]
        have q1 : (sgn t == 2) = false := by simp; omega
        subst ho
        clear h0 h1 h2 h3 h4 h
        go_enter Try.func50, Try.ntmps50
        go_wp2_with fail
        first | refine (ext_call (HO.out _)).mono ?_ | refine (to_ex (HO.out _)).mono ?_
        rintro e w' ⟨rfl, xx, rfl⟩
        go_wp2_with fail
        first | refine (ext_call (HV.out _)).mono ?_ | refine (to_ex (HV.out _)).mono ?_
        rintro e w' ⟨rfl, xx, rfl⟩
        go_wp2_with fail
        first | refine (ext_call (HC.out _)).mono ?_ | refine (to_ex (HC.out _)).mono ?_
        rintro e w' ⟨rfl, xx, rfl⟩
        go_wp2_with fail
        go_ret
        exact ⟨rfl, (by repeat (first | with_reducible assumption | with_reducible exact gr_refl _ _ | with_reducible refine kp_alloc ?_ _ | ((with_reducible refine kp_set ?_ ?_ _); rotate_left; focus (dsimp only; omega)) | with_reducible refine kp_ex ?_ _ | with_reducible refine kp_drewN ?_ _ | with_reducible refine kp_drew ?_ | with_reducible refine kp_exr ?_ _ | with_reducible refine kp_exr' ?_ _))⟩
    · have e : ori ax ay bx bY cx cy = 2 := if_neg h
      rw [e] at HO
      rw [if_neg (by simp at h ⊢; intro x1 x2 x3; simp [x1, x2, x3] at h)] at ho
      subst ho
      have HV := hide fun W => svalid_t h4 W
      clear h4 h e
      go_enter Try.func50, Try.ntmps50
      go_wp2_with fail
      first | refine (ext_call (HO.out _)).mono ?_ | refine (to_ex (HO.out _)).mono ?_
      rintro e w' ⟨rfl, xx, rfl⟩
      go_wp2_with fail
      first | refine (ext_call (HV.out _)).mono ?_ | refine (to_ex (HV.out _)).mono ?_
      rintro e w' ⟨rfl, xx, rfl⟩
      go_wp2_with fail
      go_ret
      exact ⟨rfl, (by repeat (first | with_reducible assumption | with_reducible exact gr_refl _ _ | with_reducible refine kp_alloc ?_ _ | ((with_reducible refine kp_set ?_ ?_ _); rotate_left; focus (dsimp only; omega)) | with_reducible refine kp_ex ?_ _ | with_reducible refine kp_drewN ?_ _ | with_reducible refine kp_drew ?_ | with_reducible refine kp_exr ?_ _ | with_reducible refine kp_exr' ?_ _))⟩
  · rw [if_neg (by simp [h4])] at ho
    subst ho
    have HV := hide fun W => svalid_f h4 W
    clear h4
    go_enter Try.func50, Try.ntmps50
    go_wp2_with fail
    first | refine (ext_call (HO.out _)).mono ?_ | refine (to_ex (HO.out _)).mono ?_
    rintro e w' ⟨rfl, xx, rfl⟩
    go_wp2_with fail
    first | refine (ext_call (HV.out _)).mono ?_ | refine (to_ex (HV.out _)).mono ?_
    rintro e w' ⟨rfl, xx, rfl⟩
    go_wp2_with fail
    go_ret
    exact ⟨rfl, (by repeat (first | with_reducible assumption | with_reducible exact gr_refl _ _ | with_reducible refine kp_alloc ?_ _ | ((with_reducible refine kp_set ?_ ?_ _); rotate_left; focus (dsimp only; omega)) | with_reducible refine kp_ex ?_ _ | with_reducible refine kp_drewN ?_ _ | with_reducible refine kp_drew ?_ | with_reducible refine kp_exr ?_ _ | with_reducible refine kp_exr' ?_ _))⟩
end Go.Proofs.Ytndkhbilefljnaa
