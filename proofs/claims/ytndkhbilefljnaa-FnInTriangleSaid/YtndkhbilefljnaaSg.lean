/- Segments: contracts. -/
import Derived.Test.YtndkhbilefljnaaS1
namespace Go.Proofs.Ytndkhbilefljnaa
open Go.RowKit

/-- The inner product that is negative between both ends. -/
def dotp (ax ay bx bY px py : Int) : Int := (ax - px) * (bx - px) + (ay - py) * (bY - py)
/-- A point is on a segment. -/
def onB (ax ay bx bY px py : Int) : Bool := decide (trn ax ay bx bY px py = 0) && decide (dotp ax ay bx bY px py ≤ 0)

set_option maxHeartbeats 1000000 in
theorem has_any (ax ay bx bY px py : Int) (w : World) (m0 : -100000 ≤ ax) (m0' : ax ≤ 100000) (m1 : -100000 ≤ ay) (m1' : ay ≤ 100000) (m2 : -100000 ≤ bx) (m2' : bx ≤ 100000) (m3 : -100000 ≤ bY) (m3' : bY ≤ 100000) (m4 : -100000 ≤ px) (m4' : px ≤ 100000) (m5 : -100000 ≤ py) (m5' : py ≤ 100000) :
    Calls Try.prog 91 #[.agg #[.int .i64 ax, .int .i64 ay, .int .i64 bx, .int .i64 bY], .agg #[.int .i64 px, .int .i64 py]] w fun e w' => e = .returned (.bool (onB ax ay bx bY px py)) ∧ w.grownBy w' none := by
  generalize ho : onB ax ay bx bY px py = o
  unfold onB at ho
  have HT := hide fun W => turn_any ax ay bx bY px py W (by omega) (by omega) (by omega) (by omega) (by omega) (by omega) (by omega) (by omega) (by omega) (by omega) (by omega) (by omega)
  generalize ht : trn ax ay bx bY px py = t at HT ho
  clear ht
  by_cases h0 : t = 0
  · have hd : decide (dotp ax ay bx bY px py ≤ 0) = o := by rw [← ho]; simp [h0]
    unfold dotp at hd
    have HD := hide hd
    subst h0
    clear ho hd
    go_enter Try.func91, Try.ntmps91
    go_wp2_with fail
    refine wp_region_ext none (by kernel_rfl) (by kernel_rfl) ?_
    repeat (go_big_quiet_step (first | (go_at_call 106; exact ext_call (HT.out _)) | (go_at_call 131; exact ext_call (minus_any _ _ _ _ _ (by omega) (by omega) (by omega) (by omega) (by omega) (by omega) (by omega) (by omega))) | (go_at_call 132; exact ext_call (dot_any _ _ _ _ _ (by omega) (by omega) (by omega) (by omega) (by omega) (by omega) (by omega) (by omega)))))
    refine wpQuiet_nil ?_
    rintro _ ⟨x, rfl⟩
    go_wp2_with fail
    go_ret
    exact ⟨ret_bool HD.out, (by repeat (first | with_reducible assumption | with_reducible exact gr_refl _ _ | with_reducible refine kp_alloc ?_ _ | ((with_reducible refine kp_set ?_ ?_ _); rotate_left; focus (dsimp only; omega)) | with_reducible refine kp_ex ?_ _ | with_reducible refine kp_drewN ?_ _ | with_reducible refine kp_drew ?_ | with_reducible refine kp_exr ?_ _ | with_reducible refine kp_exr' ?_ _))⟩
  · have ho' : o = false := by rw [← ho]; simp [h0]
    have h0' : (t == 0) = false := by simp [h0]
    subst ho'
    clear ho h0
    go_enter Try.func91, Try.ntmps91
    go_wp2_with fail
    refine wp_region_ext none (by kernel_rfl) (by kernel_rfl) ?_
    repeat (go_big_quiet_step (first | (go_at_call 106; exact ext_call (HT.out _))))
    refine wpQuiet_nil ?_
    rintro _ ⟨x, rfl⟩
    go_wp2_with fail
    go_ret
    exact ⟨rfl, (by repeat (first | with_reducible assumption | with_reducible exact gr_refl _ _ | with_reducible refine kp_alloc ?_ _ | ((with_reducible refine kp_set ?_ ?_ _); rotate_left; focus (dsimp only; omega)) | with_reducible refine kp_ex ?_ _ | with_reducible refine kp_drewN ?_ _ | with_reducible refine kp_drew ?_ | with_reducible refine kp_exr ?_ _ | with_reducible refine kp_exr' ?_ _))⟩

/-- In the box of two points. -/
def boxB (ax ay bx bY px py : Int) : Bool := (decide (min ax bx ≤ px) && decide (px ≤ max ax bx)) && (decide (min ay bY ≤ py) && decide (py ≤ max ay bY))

set_option maxHeartbeats 1000000 in
theorem between_any (ax ay bx bY px py : Int) (w : World) :
    Calls Try.prog 133 #[.agg #[.int .i64 ax, .int .i64 ay, .int .i64 bx, .int .i64 bY], .agg #[.int .i64 px, .int .i64 py]] w fun e w' => e = .returned (.bool (boxB ax ay bx bY px py)) ∧ w.grownBy w' none := by
  go_enter Try.func133, Try.ntmps133
  go_wp2_with (go_at_call 119; refine (inRange_any _ _ _ _).mono ?_; rintro e w' ⟨rfl, rfl⟩)
  all_goals (go_ret; exact ⟨ret_bool (by unfold boxB; rw [Bool.eq_iff_iff]; simp; try omega), (by repeat (first | with_reducible assumption | with_reducible exact gr_refl _ _ | with_reducible refine kp_alloc ?_ _ | ((with_reducible refine kp_set ?_ ?_ _); rotate_left; focus (dsimp only; omega)) | with_reducible refine kp_ex ?_ _ | with_reducible refine kp_drewN ?_ _ | with_reducible refine kp_drew ?_ | with_reducible refine kp_exr ?_ _ | with_reducible refine kp_exr' ?_ _))⟩)

theorem ilt_or_ge (a b : Int) : a < b ∨ b ≤ a := by omega
/-- On a line, the inner product is negative exactly between both ends. -/
theorem box_iff (ax ay bx bY px py : Int) (h : trn ax ay bx bY px py = 0) : boxB ax ay bx bY px py = true ↔ dotp ax ay bx bY px py ≤ 0 := by
  have e : (ax - px) * (bY - py) = (ay - py) * (bx - px) := by unfold trn at h; grind
  unfold boxB dotp
  generalize hu : ax - px = u at e ⊢
  generalize hv : bx - px = v at e ⊢
  generalize hs : ay - py = s at e ⊢
  generalize ht : bY - py = t at e ⊢
  have hb : (decide (min ax bx ≤ px) && decide (px ≤ max ax bx) && (decide (min ay bY ≤ py) && decide (py ≤ max ay bY))) = true ↔ ((u ≤ 0 ∧ 0 ≤ v) ∨ (v ≤ 0 ∧ 0 ≤ u)) ∧ ((s ≤ 0 ∧ 0 ≤ t) ∨ (t ≤ 0 ∧ 0 ≤ s)) := by
    simp only [Bool.and_eq_true, decide_eq_true_eq]
    omega
  rw [hb]
  have k1 : ((u ≤ 0 ∧ 0 ≤ v) ∨ (v ≤ 0 ∧ 0 ≤ u)) ↔ u * v ≤ 0 := by
    constructor
    · rintro (⟨h1, h2⟩ | ⟨h1, h2⟩)
      · exact Int.mul_nonpos_of_nonpos_of_nonneg h1 h2
      · rw [Int.mul_comm]; exact Int.mul_nonpos_of_nonpos_of_nonneg h1 h2
    · intro hle
      rcases Int.lt_trichotomy u 0 with h1 | h1 | h1
      · left
        refine ⟨by omega, ?_⟩
        rcases ilt_or_ge v 0 with h2 | h2
        · have := Int.mul_pos_of_neg_of_neg h1 h2; omega
        · exact h2
      · omega
      · right
        refine ⟨?_, by omega⟩
        rcases ilt_or_ge 0 v with h2 | h2
        · have := Int.mul_pos h1 h2; omega
        · exact h2
  have k2 : ((s ≤ 0 ∧ 0 ≤ t) ∨ (t ≤ 0 ∧ 0 ≤ s)) ↔ s * t ≤ 0 := by
    constructor
    · rintro (⟨h1, h2⟩ | ⟨h1, h2⟩)
      · exact Int.mul_nonpos_of_nonpos_of_nonneg h1 h2
      · rw [Int.mul_comm]; exact Int.mul_nonpos_of_nonpos_of_nonneg h1 h2
    · intro hle
      rcases Int.lt_trichotomy s 0 with h1 | h1 | h1
      · left
        refine ⟨by omega, ?_⟩
        rcases ilt_or_ge t 0 with h2 | h2
        · have := Int.mul_pos_of_neg_of_neg h1 h2; omega
        · exact h2
      · omega
      · right
        refine ⟨?_, by omega⟩
        rcases ilt_or_ge 0 t with h2 | h2
        · have := Int.mul_pos h1 h2; omega
        · exact h2
  rw [k1, k2]
  have key : (u * v) * (s * t) = (u * t) * (u * t) := by rw [show (u * v) * (s * t) = (u * t) * (s * v) by grind, e]
  have sq : 0 ≤ (u * t) * (u * t) := by
    rcases Int.le_total 0 (u * t) with h1 | h1
    · exact Int.mul_nonneg h1 h1
    · have := Int.mul_nonneg (show 0 ≤ -(u * t) by omega) (show 0 ≤ -(u * t) by omega)
      rwa [Int.neg_mul_neg] at this
  rw [← key] at sq
  constructor
  · rintro ⟨h1, h2⟩; omega
  · intro hle
    constructor
    · rcases ilt_or_ge 0 (u * v) with h1 | h1
      · rcases ilt_or_ge (s * t) 0 with h2 | h2
        · have := Int.mul_neg_of_pos_of_neg h1 h2; omega
        · omega
      · exact h1
    · rcases ilt_or_ge 0 (s * t) with h1 | h1
      · rcases ilt_or_ge (u * v) 0 with h2 | h2
        · have := Int.mul_neg_of_neg_of_pos h2 h1; omega
        · omega
      · exact h1
theorem onB_box (ax ay bx bY px py : Int) : onB ax ay bx bY px py = (decide (trn ax ay bx bY px py = 0) && boxB ax ay bx bY px py) := by
  unfold onB
  by_cases h : trn ax ay bx bY px py = 0
  · have := box_iff ax ay bx bY px py h
    simp only [h, decide_true, Bool.true_and]
    rw [Bool.eq_iff_iff, decide_eq_true_eq]
    exact this.symm
  · simp [h]

theorem sonSegment_any (ax ay bx bY px py : Int) (w : World) (m0 : -100000 ≤ ax) (m0' : ax ≤ 100000) (m1 : -100000 ≤ ay) (m1' : ay ≤ 100000) (m2 : -100000 ≤ bx) (m2' : bx ≤ 100000) (m3 : -100000 ≤ bY) (m3' : bY ≤ 100000) (m4 : -100000 ≤ px) (m4' : px ≤ 100000) (m5 : -100000 ≤ py) (m5' : py ≤ 100000) :
    Calls Try.prog 94 #[.agg #[.int .i64 ax, .int .i64 ay, .int .i64 bx, .int .i64 bY], .agg #[.int .i64 px, .int .i64 py]] w fun e w' => e = .returned (.bool (onB ax ay bx bY px py)) ∧ w.grownBy w' none := by
  rw [onB_box]
  have HT := hide fun W => scross_any ax ay bx bY px py W (by omega) (by omega) (by omega) (by omega) (by omega) (by omega) (by omega) (by omega) (by omega) (by omega) (by omega) (by omega)
  generalize ht : trn ax ay bx bY px py = t at HT ⊢
  clear ht
  by_cases h0 : t = 0
  · subst h0
    go_enter Try.func94, Try.ntmps94
    go_wp2_with fail
    first | refine (ext_call (HT.out _)).mono ?_ | refine (to_ex (HT.out _)).mono ?_
    rintro e w' ⟨rfl, xx, rfl⟩
    go_wp2_with fail
    first | refine (ext_call (between_any _ _ _ _ _ _ _)).mono ?_ | refine (to_ex (between_any _ _ _ _ _ _ _)).mono ?_
    rintro e w' ⟨rfl, xx, rfl⟩
    go_wp2_with fail
    go_ret
    exact ⟨ret_bool (by simp), (by repeat (first | with_reducible assumption | with_reducible exact gr_refl _ _ | with_reducible refine kp_alloc ?_ _ | ((with_reducible refine kp_set ?_ ?_ _); rotate_left; focus (dsimp only; omega)) | with_reducible refine kp_ex ?_ _ | with_reducible refine kp_drewN ?_ _ | with_reducible refine kp_drew ?_ | with_reducible refine kp_exr ?_ _ | with_reducible refine kp_exr' ?_ _))⟩
  · have h0' : (t == 0) = false := by simp [h0]
    have H := hide h0
    clear h0
    go_enter Try.func94, Try.ntmps94
    go_wp2_with fail
    first | refine (ext_call (HT.out _)).mono ?_ | refine (to_ex (HT.out _)).mono ?_
    rintro e w' ⟨rfl, xx, rfl⟩
    go_wp2_with fail
    go_ret
    exact ⟨ret_bool (by simp [H.out]), (by repeat (first | with_reducible assumption | with_reducible exact gr_refl _ _ | with_reducible refine kp_alloc ?_ _ | ((with_reducible refine kp_set ?_ ?_ _); rotate_left; focus (dsimp only; omega)) | with_reducible refine kp_ex ?_ _ | with_reducible refine kp_drewN ?_ _ | with_reducible refine kp_drew ?_ | with_reducible refine kp_exr ?_ _ | with_reducible refine kp_exr' ?_ _))⟩
end Go.Proofs.Ytndkhbilefljnaa
