/- Valid segments, OnSegment: the program's and the reference's. -/
import Derived.Test.YtndkhbilefljnaaSg
namespace Go.Proofs.Ytndkhbilefljnaa
open Go.RowKit

/-- A valid segment. -/
def okS (ax ay bx bY : Int) : Bool := okP ax ay && okP bx bY && !(decide (ax = bx) && decide (ay = bY))
theorem okS_bd {ax ay bx bY : Int} (h : okS ax ay bx bY = true) : okP ax ay = true ∧ okP bx bY = true ∧ ¬(ax = bx ∧ ay = bY) := by
  unfold okS at h
  simp only [Bool.and_eq_true, Bool.not_eq_true', Bool.and_eq_false_iff, decide_eq_false_iff_not] at h
  exact ⟨h.1.1, h.1.2, fun e => h.2.elim (fun f => f e.1) (fun f => f e.2)⟩

theorem svalidSegment_any (ax ay bx bY : Int) (w : World) :
    Calls Try.prog 92 #[.agg #[.int .i64 ax, .int .i64 ay, .int .i64 bx, .int .i64 bY]] w fun e w' => e = .returned (.bool (okS ax ay bx bY)) ∧ w.grownBy w' none := by
  by_cases h1 : okP ax ay = true
  · by_cases h2 : okP bx bY = true
    · have H := hide (And.intro h1 h2)
      clear h1 h2
      by_cases e1 : ax = bx
      · by_cases e2 : ay = bY
        · subst e1
          subst e2
          go_enter Try.func92, Try.ntmps92
          go_wp2_with fail
          first | refine (ext_call (svalid_t H.out.1 _)).mono ?_ | refine (to_ex (svalid_t H.out.1 _)).mono ?_
          rintro e w' ⟨rfl, xx, rfl⟩
          go_wp2_with fail
          first | refine (ext_call (svalid_t H.out.2 _)).mono ?_ | refine (to_ex (svalid_t H.out.2 _)).mono ?_
          rintro e w' ⟨rfl, xx, rfl⟩
          go_wp2_with fail
          go_ret
          exact ⟨ret_bool (by simp [okS]), (by repeat (first | with_reducible assumption | with_reducible exact gr_refl _ _ | with_reducible refine kp_alloc ?_ _ | ((with_reducible refine kp_set ?_ ?_ _); rotate_left; focus (dsimp only; omega)) | with_reducible refine kp_ex ?_ _ | with_reducible refine kp_drewN ?_ _ | with_reducible refine kp_drew ?_ | with_reducible refine kp_exr ?_ _ | with_reducible refine kp_exr' ?_ _))⟩
        · subst e1
          go_enter Try.func92, Try.ntmps92
          go_wp2_with fail
          first | refine (ext_call (svalid_t H.out.1 _)).mono ?_ | refine (to_ex (svalid_t H.out.1 _)).mono ?_
          rintro e w' ⟨rfl, xx, rfl⟩
          go_wp2_with fail
          first | refine (ext_call (svalid_t H.out.2 _)).mono ?_ | refine (to_ex (svalid_t H.out.2 _)).mono ?_
          rintro e w' ⟨rfl, xx, rfl⟩
          go_wp2_with fail
          go_ret
          exact ⟨ret_bool (by simp [okS, H.out, e2]), (by repeat (first | with_reducible assumption | with_reducible exact gr_refl _ _ | with_reducible refine kp_alloc ?_ _ | ((with_reducible refine kp_set ?_ ?_ _); rotate_left; focus (dsimp only; omega)) | with_reducible refine kp_ex ?_ _ | with_reducible refine kp_drewN ?_ _ | with_reducible refine kp_drew ?_ | with_reducible refine kp_exr ?_ _ | with_reducible refine kp_exr' ?_ _))⟩
      · skip
        go_enter Try.func92, Try.ntmps92
        go_wp2_with fail
        first | refine (ext_call (svalid_t H.out.1 _)).mono ?_ | refine (to_ex (svalid_t H.out.1 _)).mono ?_
        rintro e w' ⟨rfl, xx, rfl⟩
        go_wp2_with fail
        first | refine (ext_call (svalid_t H.out.2 _)).mono ?_ | refine (to_ex (svalid_t H.out.2 _)).mono ?_
        rintro e w' ⟨rfl, xx, rfl⟩
        go_wp2_with fail
        go_ret
        exact ⟨ret_bool (by simp [okS, H.out, e1]), (by repeat (first | with_reducible assumption | with_reducible exact gr_refl _ _ | with_reducible refine kp_alloc ?_ _ | ((with_reducible refine kp_set ?_ ?_ _); rotate_left; focus (dsimp only; omega)) | with_reducible refine kp_ex ?_ _ | with_reducible refine kp_drewN ?_ _ | with_reducible refine kp_drew ?_ | with_reducible refine kp_exr ?_ _ | with_reducible refine kp_exr' ?_ _))⟩
    · have H := hide (And.intro h1 h2)
      clear h1 h2
      go_enter Try.func92, Try.ntmps92
      go_wp2_with fail
      first | refine (ext_call (svalid_t H.out.1 _)).mono ?_ | refine (to_ex (svalid_t H.out.1 _)).mono ?_
      rintro e w' ⟨rfl, xx, rfl⟩
      go_wp2_with fail
      first | refine (ext_call (svalid_f H.out.2 _)).mono ?_ | refine (to_ex (svalid_f H.out.2 _)).mono ?_
      rintro e w' ⟨rfl, xx, rfl⟩
      go_wp2_with fail
      go_ret
      exact ⟨ret_bool (by simp [okS, H.out]), (by repeat (first | with_reducible assumption | with_reducible exact gr_refl _ _ | with_reducible refine kp_alloc ?_ _ | ((with_reducible refine kp_set ?_ ?_ _); rotate_left; focus (dsimp only; omega)) | with_reducible refine kp_ex ?_ _ | with_reducible refine kp_drewN ?_ _ | with_reducible refine kp_drew ?_ | with_reducible refine kp_exr ?_ _ | with_reducible refine kp_exr' ?_ _))⟩
  · have H := hide h1
    clear h1
    go_enter Try.func92, Try.ntmps92
    go_wp2_with fail
    first | refine (ext_call (svalid_f H.out _)).mono ?_ | refine (to_ex (svalid_f H.out _)).mono ?_
    rintro e w' ⟨rfl, xx, rfl⟩
    go_wp2_with fail
    go_ret
    exact ⟨ret_bool (by simp [okS, H.out]), (by repeat (first | with_reducible assumption | with_reducible exact gr_refl _ _ | with_reducible refine kp_alloc ?_ _ | ((with_reducible refine kp_set ?_ ?_ _); rotate_left; focus (dsimp only; omega)) | with_reducible refine kp_ex ?_ _ | with_reducible refine kp_drewN ?_ _ | with_reducible refine kp_drew ?_ | with_reducible refine kp_exr ?_ _ | with_reducible refine kp_exr' ?_ _))⟩

theorem ivalidSegment_any (ax ay bx bY : Int) (w : World) :
    Calls Try.prog 89 #[.agg #[.int .i64 ax, .int .i64 ay, .int .i64 bx, .int .i64 bY]] w fun e w' => e = .returned (.bool (okS ax ay bx bY)) ∧ w.grownBy w' none := by
  have hv := fun W => allValid_any (some ⟨w.heap.size + 1, 0, none⟩) [(ax, ay), (bx, bY)] 2 W (by simp)
  have ha : allP [(ax, ay), (bx, bY)] = (okP ax ay && okP bx bY) := by unfold allP; simp
  rw [ha] at hv
  clear ha
  by_cases h : (okP ax ay && okP bx bY) = true
  · rw [h] at hv
    have HV := hide hv
    have H := hide h
    clear hv h
    have H2 := hide (And.intro (Bool.and_eq_true .. ▸ H.out).1 (Bool.and_eq_true .. ▸ H.out).2)
    by_cases e1 : ax = bx
    · by_cases e2 : ay = bY
      · subst e1
        subst e2
        go_enter Try.func89, Try.ntmps89
        go_wp2_with fail
        first | refine (ext_call (HV.out _ (by exact pts_new _ _ _ _ _ (by simp) rfl))).mono ?_ | refine (to_ex (HV.out _ (by exact pts_new _ _ _ _ _ (by simp) rfl))).mono ?_
        rintro e w' ⟨rfl, xx, rfl⟩
        go_wp2_with fail
        go_ret
        exact ⟨ret_bool (by simp [okS]), (by repeat (first | with_reducible assumption | with_reducible exact gr_refl _ _ | with_reducible refine kp_alloc ?_ _ | ((with_reducible refine kp_set ?_ ?_ _); rotate_left; focus (dsimp only; omega)) | with_reducible refine kp_ex ?_ _ | with_reducible refine kp_drewN ?_ _ | with_reducible refine kp_drew ?_ | with_reducible refine kp_exr ?_ _ | with_reducible refine kp_exr' ?_ _))⟩
      · subst e1
        go_enter Try.func89, Try.ntmps89
        go_wp2_with fail
        first | refine (ext_call (HV.out _ (by exact pts_new _ _ _ _ _ (by simp) rfl))).mono ?_ | refine (to_ex (HV.out _ (by exact pts_new _ _ _ _ _ (by simp) rfl))).mono ?_
        rintro e w' ⟨rfl, xx, rfl⟩
        go_wp2_with fail
        go_ret
        exact ⟨ret_bool (by simp [okS, H2.out, e2]), (by repeat (first | with_reducible assumption | with_reducible exact gr_refl _ _ | with_reducible refine kp_alloc ?_ _ | ((with_reducible refine kp_set ?_ ?_ _); rotate_left; focus (dsimp only; omega)) | with_reducible refine kp_ex ?_ _ | with_reducible refine kp_drewN ?_ _ | with_reducible refine kp_drew ?_ | with_reducible refine kp_exr ?_ _ | with_reducible refine kp_exr' ?_ _))⟩
    · skip
      go_enter Try.func89, Try.ntmps89
      go_wp2_with fail
      first | refine (ext_call (HV.out _ (by exact pts_new _ _ _ _ _ (by simp) rfl))).mono ?_ | refine (to_ex (HV.out _ (by exact pts_new _ _ _ _ _ (by simp) rfl))).mono ?_
      rintro e w' ⟨rfl, xx, rfl⟩
      go_wp2_with fail
      go_ret
      exact ⟨ret_bool (by simp [okS, H2.out, e1]), (by repeat (first | with_reducible assumption | with_reducible exact gr_refl _ _ | with_reducible refine kp_alloc ?_ _ | ((with_reducible refine kp_set ?_ ?_ _); rotate_left; focus (dsimp only; omega)) | with_reducible refine kp_ex ?_ _ | with_reducible refine kp_drewN ?_ _ | with_reducible refine kp_drew ?_ | with_reducible refine kp_exr ?_ _ | with_reducible refine kp_exr' ?_ _))⟩
  · rw [Bool.eq_false_iff.2 h] at hv
    have HV := hide hv
    have H := hide h
    clear hv h
    go_enter Try.func89, Try.ntmps89
    go_wp2_with fail
    first | refine (ext_call (HV.out _ (by exact pts_new _ _ _ _ _ (by simp) rfl))).mono ?_ | refine (to_ex (HV.out _ (by exact pts_new _ _ _ _ _ (by simp) rfl))).mono ?_
    rintro e w' ⟨rfl, xx, rfl⟩
    go_wp2_with fail
    go_ret
    exact ⟨ret_bool (by unfold okS; rw [Bool.eq_false_iff.2 H.out]; simp), (by repeat (first | with_reducible assumption | with_reducible exact gr_refl _ _ | with_reducible refine kp_alloc ?_ _ | ((with_reducible refine kp_set ?_ ?_ _); rotate_left; focus (dsimp only; omega)) | with_reducible refine kp_ex ?_ _ | with_reducible refine kp_drewN ?_ _ | with_reducible refine kp_drew ?_ | with_reducible refine kp_exr ?_ _ | with_reducible refine kp_exr' ?_ _))⟩
theorem pvalid_t {x y : Int} (h : okP x y = true) (w : World) : Calls Try.prog 90 #[.agg #[.int .i64 x, .int .i64 y]] w fun e w' => e = .returned (.bool true) ∧ w.grownBy w' none := h ▸ pvalid_any x y w
theorem pvalid_f {x y : Int} (h : ¬ okP x y = true) (w : World) : Calls Try.prog 90 #[.agg #[.int .i64 x, .int .i64 y]] w fun e w' => e = .returned (.bool false) ∧ w.grownBy w' none := (Bool.eq_false_iff.2 h) ▸ pvalid_any x y w

/-- What OnSegment returns. -/
def onSeg (ax ay bx bY px py : Int) : Bool := okS ax ay bx bY && (okP px py && onB ax ay bx bY px py)

theorem iOnSegment_any (ax ay bx bY px py : Int) (w : World) :
    Calls Try.prog 31 #[.agg #[.int .i64 ax, .int .i64 ay, .int .i64 bx, .int .i64 bY], .agg #[.int .i64 px, .int .i64 py]] w fun e w' => e = .returned (.bool (onSeg ax ay bx bY px py)) ∧ w.grownBy w' none := by
  have HS := hide fun W => ivalidSegment_any ax ay bx bY W
  by_cases h1 : okS ax ay bx bY = true
  · rw [h1] at HS
    by_cases h2 : okP px py = true
    · have s1 := okS_bd h1
      have a1 := okP_bd s1.1
      have b1 := okP_bd s1.2.1
      have q1 := okP_bd h2
      have HO := hide fun W => has_any ax ay bx bY px py W (by omega) (by omega) (by omega) (by omega) (by omega) (by omega) (by omega) (by omega) (by omega) (by omega) (by omega) (by omega)
      have H := hide (And.intro h1 h2)
      clear s1 h1 h2
      go_enter Try.func31, Try.ntmps31
      go_wp2_with fail
      first | refine (ext_call (HS.out _)).mono ?_ | refine (to_ex (HS.out _)).mono ?_
      rintro e w' ⟨rfl, xx, rfl⟩
      go_wp2_with fail
      first | refine (ext_call (pvalid_t H.out.2 _)).mono ?_ | refine (to_ex (pvalid_t H.out.2 _)).mono ?_
      rintro e w' ⟨rfl, xx, rfl⟩
      go_wp2_with fail
      first | refine (ext_call (HO.out _)).mono ?_ | refine (to_ex (HO.out _)).mono ?_
      rintro e w' ⟨rfl, xx, rfl⟩
      go_wp2_with fail
      go_ret
      exact ⟨ret_bool (by simp [onSeg, H.out]), (by repeat (first | with_reducible assumption | with_reducible exact gr_refl _ _ | with_reducible refine kp_alloc ?_ _ | ((with_reducible refine kp_set ?_ ?_ _); rotate_left; focus (dsimp only; omega)) | with_reducible refine kp_ex ?_ _ | with_reducible refine kp_drewN ?_ _ | with_reducible refine kp_drew ?_ | with_reducible refine kp_exr ?_ _ | with_reducible refine kp_exr' ?_ _))⟩
    · have H := hide (And.intro h1 h2)
      clear h1 h2
      go_enter Try.func31, Try.ntmps31
      go_wp2_with fail
      first | refine (ext_call (HS.out _)).mono ?_ | refine (to_ex (HS.out _)).mono ?_
      rintro e w' ⟨rfl, xx, rfl⟩
      go_wp2_with fail
      first | refine (ext_call (pvalid_f H.out.2 _)).mono ?_ | refine (to_ex (pvalid_f H.out.2 _)).mono ?_
      rintro e w' ⟨rfl, xx, rfl⟩
      go_wp2_with fail
      go_ret
      exact ⟨ret_bool (by simp [onSeg, H.out]), (by repeat (first | with_reducible assumption | with_reducible exact gr_refl _ _ | with_reducible refine kp_alloc ?_ _ | ((with_reducible refine kp_set ?_ ?_ _); rotate_left; focus (dsimp only; omega)) | with_reducible refine kp_ex ?_ _ | with_reducible refine kp_drewN ?_ _ | with_reducible refine kp_drew ?_ | with_reducible refine kp_exr ?_ _ | with_reducible refine kp_exr' ?_ _))⟩
  · rw [Bool.eq_false_iff.2 h1] at HS
    have H := hide h1
    clear h1
    go_enter Try.func31, Try.ntmps31
    go_wp2_with fail
    first | refine (ext_call (HS.out _)).mono ?_ | refine (to_ex (HS.out _)).mono ?_
    rintro e w' ⟨rfl, xx, rfl⟩
    go_wp2_with fail
    go_ret
    exact ⟨ret_bool (by simp [onSeg, H.out]), (by repeat (first | with_reducible assumption | with_reducible exact gr_refl _ _ | with_reducible refine kp_alloc ?_ _ | ((with_reducible refine kp_set ?_ ?_ _); rotate_left; focus (dsimp only; omega)) | with_reducible refine kp_ex ?_ _ | with_reducible refine kp_drewN ?_ _ | with_reducible refine kp_drew ?_ | with_reducible refine kp_exr ?_ _ | with_reducible refine kp_exr' ?_ _))⟩

theorem sOnSegment_any (ax ay bx bY px py : Int) (w : World) :
    Calls Try.prog 32 #[.agg #[.int .i64 ax, .int .i64 ay, .int .i64 bx, .int .i64 bY], .agg #[.int .i64 px, .int .i64 py]] w fun e w' => e = .returned (.bool (onSeg ax ay bx bY px py)) ∧ w.grownBy w' none := by
  have HS := hide fun W => svalidSegment_any ax ay bx bY W
  by_cases h1 : okS ax ay bx bY = true
  · rw [h1] at HS
    by_cases h2 : okP px py = true
    · have s1 := okS_bd h1
      have a1 := okP_bd s1.1
      have b1 := okP_bd s1.2.1
      have q1 := okP_bd h2
      have HO := hide fun W => sonSegment_any ax ay bx bY px py W (by omega) (by omega) (by omega) (by omega) (by omega) (by omega) (by omega) (by omega) (by omega) (by omega) (by omega) (by omega)
      have H := hide (And.intro h1 h2)
      clear s1 h1 h2
      go_enter Try.func32, Try.ntmps32
      go_wp2_with fail
      first | refine (ext_call (HS.out _)).mono ?_ | refine (to_ex (HS.out _)).mono ?_
      rintro e w' ⟨rfl, xx, rfl⟩
      go_wp2_with fail
      first | refine (ext_call (svalid_t H.out.2 _)).mono ?_ | refine (to_ex (svalid_t H.out.2 _)).mono ?_
      rintro e w' ⟨rfl, xx, rfl⟩
      go_wp2_with fail
      first | refine (ext_call (HO.out _)).mono ?_ | refine (to_ex (HO.out _)).mono ?_
      rintro e w' ⟨rfl, xx, rfl⟩
      go_wp2_with fail
      go_ret
      exact ⟨ret_bool (by simp [onSeg, H.out]), (by repeat (first | with_reducible assumption | with_reducible exact gr_refl _ _ | with_reducible refine kp_alloc ?_ _ | ((with_reducible refine kp_set ?_ ?_ _); rotate_left; focus (dsimp only; omega)) | with_reducible refine kp_ex ?_ _ | with_reducible refine kp_drewN ?_ _ | with_reducible refine kp_drew ?_ | with_reducible refine kp_exr ?_ _ | with_reducible refine kp_exr' ?_ _))⟩
    · have H := hide (And.intro h1 h2)
      clear h1 h2
      go_enter Try.func32, Try.ntmps32
      go_wp2_with fail
      first | refine (ext_call (HS.out _)).mono ?_ | refine (to_ex (HS.out _)).mono ?_
      rintro e w' ⟨rfl, xx, rfl⟩
      go_wp2_with fail
      first | refine (ext_call (svalid_f H.out.2 _)).mono ?_ | refine (to_ex (svalid_f H.out.2 _)).mono ?_
      rintro e w' ⟨rfl, xx, rfl⟩
      go_wp2_with fail
      go_ret
      exact ⟨ret_bool (by simp [onSeg, H.out]), (by repeat (first | with_reducible assumption | with_reducible exact gr_refl _ _ | with_reducible refine kp_alloc ?_ _ | ((with_reducible refine kp_set ?_ ?_ _); rotate_left; focus (dsimp only; omega)) | with_reducible refine kp_ex ?_ _ | with_reducible refine kp_drewN ?_ _ | with_reducible refine kp_drew ?_ | with_reducible refine kp_exr ?_ _ | with_reducible refine kp_exr' ?_ _))⟩
  · rw [Bool.eq_false_iff.2 h1] at HS
    have H := hide h1
    clear h1
    go_enter Try.func32, Try.ntmps32
    go_wp2_with fail
    first | refine (ext_call (HS.out _)).mono ?_ | refine (to_ex (HS.out _)).mono ?_
    rintro e w' ⟨rfl, xx, rfl⟩
    go_wp2_with fail
    go_ret
    exact ⟨ret_bool (by simp [onSeg, H.out]), (by repeat (first | with_reducible assumption | with_reducible exact gr_refl _ _ | with_reducible refine kp_alloc ?_ _ | ((with_reducible refine kp_set ?_ ?_ _); rotate_left; focus (dsimp only; omega)) | with_reducible refine kp_ex ?_ _ | with_reducible refine kp_drewN ?_ _ | with_reducible refine kp_drew ?_ | with_reducible refine kp_exr ?_ _ | with_reducible refine kp_exr' ?_ _))⟩
end Go.Proofs.Ytndkhbilefljnaa
