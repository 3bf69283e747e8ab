/- Points in triangles: the program's and the reference's. -/
import Derived.Test.YtndkhbilefljnaaSg2
import Derived.Test.YtndkhbilefljnaaEq
namespace Go.Proofs.Ytndkhbilefljnaa
open Go.RowKit

theorem trn_bd (ax ay bx bY cx cy : Int) (m0 : -1000 ≤ ax) (m0' : ax ≤ 1000) (m1 : -1000 ≤ ay) (m1' : ay ≤ 1000) (m2 : -1000 ≤ bx) (m2' : bx ≤ 1000) (m3 : -1000 ≤ bY) (m3' : bY ≤ 1000) (m4 : -1000 ≤ cx) (m4' : cx ≤ 1000) (m5 : -1000 ≤ cy) (m5' : cy ≤ 1000) : -8000000 ≤ trn ax ay bx bY cx cy ∧ trn ax ay bx bY cx cy ≤ 8000000 := by
  have b1 := mul_bd (bx - ax) (cy - ay) 2000 2000 (by omega) (by omega) (by omega) (by omega)
  have b2 := mul_bd (bY - ay) (cx - ax) 2000 2000 (by omega) (by omega) (by omega) (by omega)
  unfold trn
  omega
theorem sgn_zero' (n : Int) : sgn n = 0 ↔ n = 0 := by unfold sgn; split <;> (try split) <;> constructor <;> intro <;> omega
/-- A point is in a triangle. -/
def triB (ax ay bx bY cx cy px py : Int) : Bool :=
  if trn ax ay bx bY cx cy = 0 then onB ax ay bx bY px py || (onB bx bY cx cy px py || onB cx cy ax ay px py)
  else decide (0 ≤ sgn (trn ax ay bx bY cx cy) * trn ax ay bx bY px py) && (decide (0 ≤ sgn (trn ax ay bx bY cx cy) * trn bx bY cx cy px py) && decide (0 ≤ sgn (trn ax ay bx bY cx cy) * trn cx cy ax ay px py))

set_option maxHeartbeats 1000000 in
theorem iinTriangle_any (ax ay bx bY cx cy px py : Int) (w : World) (m0 : -1000 ≤ ax) (m0' : ax ≤ 1000) (m1 : -1000 ≤ ay) (m1' : ay ≤ 1000) (m2 : -1000 ≤ bx) (m2' : bx ≤ 1000) (m3 : -1000 ≤ bY) (m3' : bY ≤ 1000) (m4 : -1000 ≤ cx) (m4' : cx ≤ 1000) (m5 : -1000 ≤ cy) (m5' : cy ≤ 1000) (m6 : -1000 ≤ px) (m6' : px ≤ 1000) (m7 : -1000 ≤ py) (m7' : py ≤ 1000) :
    Calls Try.prog 97 #[.agg #[.int .i64 ax, .int .i64 ay], .agg #[.int .i64 bx, .int .i64 bY], .agg #[.int .i64 cx, .int .i64 cy], .agg #[.int .i64 px, .int .i64 py]] w fun e w' => e = .returned (.bool (triB ax ay bx bY cx cy px py)) ∧ w.grownBy w' none := by
  generalize ho : triB ax ay bx bY cx cy px py = o
  unfold triB at ho
  have HT := hide fun W => turn_any ax ay bx bY cx cy W (by omega) (by omega) (by omega) (by omega) (by omega) (by omega) (by omega) (by omega) (by omega) (by omega) (by omega) (by omega)
  have H1 := hide fun W => has_any ax ay bx bY px py W (by omega) (by omega) (by omega) (by omega) (by omega) (by omega) (by omega) (by omega) (by omega) (by omega) (by omega) (by omega)
  have H2 := hide fun W => has_any bx bY cx cy px py W (by omega) (by omega) (by omega) (by omega) (by omega) (by omega) (by omega) (by omega) (by omega) (by omega) (by omega) (by omega)
  have H3 := hide fun W => has_any cx cy ax ay px py W (by omega) (by omega) (by omega) (by omega) (by omega) (by omega) (by omega) (by omega) (by omega) (by omega) (by omega) (by omega)
  have T1 := hide fun W => turn_any ax ay bx bY px py W (by omega) (by omega) (by omega) (by omega) (by omega) (by omega) (by omega) (by omega) (by omega) (by omega) (by omega) (by omega)
  have T2 := hide fun W => turn_any bx bY cx cy px py W (by omega) (by omega) (by omega) (by omega) (by omega) (by omega) (by omega) (by omega) (by omega) (by omega) (by omega) (by omega)
  have T3 := hide fun W => turn_any cx cy ax ay px py W (by omega) (by omega) (by omega) (by omega) (by omega) (by omega) (by omega) (by omega) (by omega) (by omega) (by omega) (by omega)
  have q1 := trn_bd ax ay bx bY px py (by omega) (by omega) (by omega) (by omega) (by omega) (by omega) (by omega) (by omega) (by omega) (by omega) (by omega) (by omega)
  have q2 := trn_bd bx bY cx cy px py (by omega) (by omega) (by omega) (by omega) (by omega) (by omega) (by omega) (by omega) (by omega) (by omega) (by omega) (by omega)
  have q3 := trn_bd cx cy ax ay px py (by omega) (by omega) (by omega) (by omega) (by omega) (by omega) (by omega) (by omega) (by omega) (by omega) (by omega) (by omega)
  generalize onB ax ay bx bY px py = b1 at H1 ho
  generalize onB bx bY cx cy px py = b2 at H2 ho
  generalize onB cx cy ax ay px py = b3 at H3 ho
  generalize trn ax ay bx bY cx cy = t at HT ho
  generalize trn ax ay bx bY px py = x1 at T1 ho q1
  generalize trn bx bY cx cy px py = x2 at T2 ho q2
  generalize trn cx cy ax ay px py = x3 at T3 ho q3
  by_cases h0 : t = 0
  · rw [if_pos h0] at ho
    subst h0
    subst ho
    have s0 : sgn 0 = 0 := rfl
    clear T1 T2 T3 q1 q2 q3 x1 x2 x3
    cases b1 with
    | true =>
      go_enter Try.func97, Try.ntmps97
      go_wp2_with fail
      first | refine (ext_call (HT.out _)).mono ?_ | refine (to_ex (HT.out _)).mono ?_
      rintro e w' ⟨rfl, xx, rfl⟩
      go_wp2_with fail
      first | refine (ext_call (sign_any _ _)).mono ?_ | refine (to_ex (sign_any _ _)).mono ?_
      rintro e w' ⟨rfl, xx, rfl⟩
      go_wp2_with fail
      first | refine (ext_call (H1.out _)).mono ?_ | refine (to_ex (H1.out _)).mono ?_
      rintro e w' ⟨rfl, xx, rfl⟩
      go_wp2_with fail
      go_ret
      exact ⟨rfl, (by repeat (first | with_reducible assumption | with_reducible exact gr_refl _ _ | with_reducible refine kp_alloc ?_ _ | ((with_reducible refine kp_set ?_ ?_ _); rotate_left; focus (dsimp only; omega)) | with_reducible refine kp_ex ?_ _ | with_reducible refine kp_drewN ?_ _ | with_reducible refine kp_drew ?_ | with_reducible refine kp_exr ?_ _ | with_reducible refine kp_exr' ?_ _))⟩
    | false =>
      cases b2 with
      | true =>
        go_enter Try.func97, Try.ntmps97
        go_wp2_with fail
        first | refine (ext_call (HT.out _)).mono ?_ | refine (to_ex (HT.out _)).mono ?_
        rintro e w' ⟨rfl, xx, rfl⟩
        go_wp2_with fail
        first | refine (ext_call (sign_any _ _)).mono ?_ | refine (to_ex (sign_any _ _)).mono ?_
        rintro e w' ⟨rfl, xx, rfl⟩
        go_wp2_with fail
        first | refine (ext_call (H1.out _)).mono ?_ | refine (to_ex (H1.out _)).mono ?_
        rintro e w' ⟨rfl, xx, rfl⟩
        go_wp2_with fail
        first | refine (ext_call (H2.out _)).mono ?_ | refine (to_ex (H2.out _)).mono ?_
        rintro e w' ⟨rfl, xx, rfl⟩
        go_wp2_with fail
        go_ret
        exact ⟨rfl, (by repeat (first | with_reducible assumption | with_reducible exact gr_refl _ _ | with_reducible refine kp_alloc ?_ _ | ((with_reducible refine kp_set ?_ ?_ _); rotate_left; focus (dsimp only; omega)) | with_reducible refine kp_ex ?_ _ | with_reducible refine kp_drewN ?_ _ | with_reducible refine kp_drew ?_ | with_reducible refine kp_exr ?_ _ | with_reducible refine kp_exr' ?_ _))⟩
      | false =>
        go_enter Try.func97, Try.ntmps97
        go_wp2_with fail
        first | refine (ext_call (HT.out _)).mono ?_ | refine (to_ex (HT.out _)).mono ?_
        rintro e w' ⟨rfl, xx, rfl⟩
        go_wp2_with fail
        first | refine (ext_call (sign_any _ _)).mono ?_ | refine (to_ex (sign_any _ _)).mono ?_
        rintro e w' ⟨rfl, xx, rfl⟩
        go_wp2_with fail
        first | refine (ext_call (H1.out _)).mono ?_ | refine (to_ex (H1.out _)).mono ?_
        rintro e w' ⟨rfl, xx, rfl⟩
        go_wp2_with fail
        first | refine (ext_call (H2.out _)).mono ?_ | refine (to_ex (H2.out _)).mono ?_
        rintro e w' ⟨rfl, xx, rfl⟩
        go_wp2_with fail
        first | refine (ext_call (H3.out _)).mono ?_ | refine (to_ex (H3.out _)).mono ?_
        rintro e w' ⟨rfl, xx, rfl⟩
        go_wp2_with fail
        go_ret
        exact ⟨ret_bool (by simp), (by repeat (first | with_reducible assumption | with_reducible exact gr_refl _ _ | with_reducible refine kp_alloc ?_ _ | ((with_reducible refine kp_set ?_ ?_ _); rotate_left; focus (dsimp only; omega)) | with_reducible refine kp_ex ?_ _ | with_reducible refine kp_drewN ?_ _ | with_reducible refine kp_drew ?_ | with_reducible refine kp_exr ?_ _ | with_reducible refine kp_exr' ?_ _))⟩
  · rw [if_neg h0] at ho
    have hs := sgn_bd t
    have hs0 : (sgn t == 0) = false := by simp [sgn_zero', h0]
    have HO := hide ho
    clear ho
    generalize hst : sgn t = s at hs HO hs0
    have ST := hide hst
    clear hst
    obtain ⟨hs1, hs2⟩ := hs
    obtain ⟨q1a, q1b⟩ := q1
    obtain ⟨q2a, q2b⟩ := q2
    obtain ⟨q3a, q3b⟩ := q3
    obtain ⟨mb1a, mb1b⟩ := mul_bd (s) (x1) (1) (8000000) (by omega) (by omega) (by omega) (by omega)
    obtain ⟨mb2a, mb2b⟩ := mul_bd (s) (x2) (1) (8000000) (by omega) (by omega) (by omega) (by omega)
    obtain ⟨mb3a, mb3b⟩ := mul_bd (s) (x3) (1) (8000000) (by omega) (by omega) (by omega) (by omega)
    have SG := hide fun W => sign_any t W
    rw [ST.out] at SG
    clear H1 H2 H3 h0
    by_cases c1 : 0 ≤ s * x1
    · by_cases c2 : 0 ≤ s * x2
      · by_cases c3 : 0 ≤ s * x3
        · skip
          go_enter Try.func97, Try.ntmps97
          go_wp2_with fail
          first | refine (ext_call (HT.out _)).mono ?_ | refine (to_ex (HT.out _)).mono ?_
          rintro e w' ⟨rfl, xx, rfl⟩
          go_wp2_with fail
          first | refine (ext_call (SG.out _)).mono ?_ | refine (to_ex (SG.out _)).mono ?_
          rintro e w' ⟨rfl, xx, rfl⟩
          go_wp2_with fail
          first | refine (ext_call (T1.out _)).mono ?_ | refine (to_ex (T1.out _)).mono ?_
          rintro e w' ⟨rfl, xx, rfl⟩
          go_wp2_with fail
          first | refine (ext_call (T2.out _)).mono ?_ | refine (to_ex (T2.out _)).mono ?_
          rintro e w' ⟨rfl, xx, rfl⟩
          go_wp2_with fail
          first | refine (ext_call (T3.out _)).mono ?_ | refine (to_ex (T3.out _)).mono ?_
          rintro e w' ⟨rfl, xx, rfl⟩
          go_wp2_with fail
          go_ret
          exact ⟨ret_bool (by rw [← HO.out, Bool.eq_iff_iff]; first | (simp; done) | (simp; omega)), (by repeat (first | with_reducible assumption | with_reducible exact gr_refl _ _ | with_reducible refine kp_alloc ?_ _ | ((with_reducible refine kp_set ?_ ?_ _); rotate_left; focus (dsimp only; omega)) | with_reducible refine kp_ex ?_ _ | with_reducible refine kp_drewN ?_ _ | with_reducible refine kp_drew ?_ | with_reducible refine kp_exr ?_ _ | with_reducible refine kp_exr' ?_ _))⟩
        · skip
          go_enter Try.func97, Try.ntmps97
          go_wp2_with fail
          first | refine (ext_call (HT.out _)).mono ?_ | refine (to_ex (HT.out _)).mono ?_
          rintro e w' ⟨rfl, xx, rfl⟩
          go_wp2_with fail
          first | refine (ext_call (SG.out _)).mono ?_ | refine (to_ex (SG.out _)).mono ?_
          rintro e w' ⟨rfl, xx, rfl⟩
          go_wp2_with fail
          first | refine (ext_call (T1.out _)).mono ?_ | refine (to_ex (T1.out _)).mono ?_
          rintro e w' ⟨rfl, xx, rfl⟩
          go_wp2_with fail
          first | refine (ext_call (T2.out _)).mono ?_ | refine (to_ex (T2.out _)).mono ?_
          rintro e w' ⟨rfl, xx, rfl⟩
          go_wp2_with fail
          first | refine (ext_call (T3.out _)).mono ?_ | refine (to_ex (T3.out _)).mono ?_
          rintro e w' ⟨rfl, xx, rfl⟩
          go_wp2_with fail
          go_ret
          exact ⟨ret_bool (by rw [← HO.out, Bool.eq_iff_iff]; first | (simp; done) | (simp; omega)), (by repeat (first | with_reducible assumption | with_reducible exact gr_refl _ _ | with_reducible refine kp_alloc ?_ _ | ((with_reducible refine kp_set ?_ ?_ _); rotate_left; focus (dsimp only; omega)) | with_reducible refine kp_ex ?_ _ | with_reducible refine kp_drewN ?_ _ | with_reducible refine kp_drew ?_ | with_reducible refine kp_exr ?_ _ | with_reducible refine kp_exr' ?_ _))⟩
      · skip
        go_enter Try.func97, Try.ntmps97
        go_wp2_with fail
        first | refine (ext_call (HT.out _)).mono ?_ | refine (to_ex (HT.out _)).mono ?_
        rintro e w' ⟨rfl, xx, rfl⟩
        go_wp2_with fail
        first | refine (ext_call (SG.out _)).mono ?_ | refine (to_ex (SG.out _)).mono ?_
        rintro e w' ⟨rfl, xx, rfl⟩
        go_wp2_with fail
        first | refine (ext_call (T1.out _)).mono ?_ | refine (to_ex (T1.out _)).mono ?_
        rintro e w' ⟨rfl, xx, rfl⟩
        go_wp2_with fail
        first | refine (ext_call (T2.out _)).mono ?_ | refine (to_ex (T2.out _)).mono ?_
        rintro e w' ⟨rfl, xx, rfl⟩
        go_wp2_with fail
        go_ret
        exact ⟨ret_bool (by rw [← HO.out, Bool.eq_iff_iff]; first | (simp; done) | (simp; omega)), (by repeat (first | with_reducible assumption | with_reducible exact gr_refl _ _ | with_reducible refine kp_alloc ?_ _ | ((with_reducible refine kp_set ?_ ?_ _); rotate_left; focus (dsimp only; omega)) | with_reducible refine kp_ex ?_ _ | with_reducible refine kp_drewN ?_ _ | with_reducible refine kp_drew ?_ | with_reducible refine kp_exr ?_ _ | with_reducible refine kp_exr' ?_ _))⟩
    · skip
      go_enter Try.func97, Try.ntmps97
      go_wp2_with fail
      first | refine (ext_call (HT.out _)).mono ?_ | refine (to_ex (HT.out _)).mono ?_
      rintro e w' ⟨rfl, xx, rfl⟩
      go_wp2_with fail
      first | refine (ext_call (SG.out _)).mono ?_ | refine (to_ex (SG.out _)).mono ?_
      rintro e w' ⟨rfl, xx, rfl⟩
      go_wp2_with fail
      first | refine (ext_call (T1.out _)).mono ?_ | refine (to_ex (T1.out _)).mono ?_
      rintro e w' ⟨rfl, xx, rfl⟩
      go_wp2_with fail
      go_ret
      exact ⟨ret_bool (by rw [← HO.out, Bool.eq_iff_iff]; first | (simp; done) | (simp; omega)), (by repeat (first | with_reducible assumption | with_reducible exact gr_refl _ _ | with_reducible refine kp_alloc ?_ _ | ((with_reducible refine kp_set ?_ ?_ _); rotate_left; focus (dsimp only; omega)) | with_reducible refine kp_ex ?_ _ | with_reducible refine kp_drewN ?_ _ | with_reducible refine kp_drew ?_ | with_reducible refine kp_exr ?_ _ | with_reducible refine kp_exr' ?_ _))⟩

/-- The reference asks the signs. -/
theorem sgn_mul_iff (s x : Int) (hs : s = 1 ∨ s = -1) : (0 ≤ sgn x * s) ↔ (0 ≤ s * x) := by
  unfold sgn
  rcases hs with rfl | rfl <;> split <;> (try split) <;> omega

attribute [local go_sem ↓] run_eql_pt run_neq_pt
/-- What the reference says of three points on a line. -/
def lineS (ax ay bx bY cx cy px py : Int) : Bool :=
  eqP ax ay px py || (!eqP ax ay bx bY && onB ax ay bx bY px py || (!eqP bx bY cx cy && onB bx bY cx cy px py || !eqP ax ay cx cy && onB ax ay cx cy px py))

theorem onB_comm (ax ay bx bY px py : Int) : onB ax ay bx bY px py = onB bx bY ax ay px py := by
  have e1 : trn bx bY ax ay px py = -trn ax ay bx bY px py := by unfold trn; grind
  have e2 : dotp bx bY ax ay px py = dotp ax ay bx bY px py := by unfold dotp; rw [Int.mul_comm (bx - px), Int.mul_comm (bY - py)]
  unfold onB
  rw [e1, e2]
  congr 1
  rw [Bool.eq_iff_iff]
  simp
theorem sq_zero {u v : Int} (h : u * u + v * v ≤ 0) : u = 0 ∧ v = 0 := by
  have sq : ∀ z : Int, z ≠ 0 → 0 < z * z := fun z hz => by
    rcases Int.lt_or_gt_of_ne hz with h1 | h1
    · exact Int.mul_pos_of_neg_of_neg h1 h1
    · exact Int.mul_pos h1 h1
  have nn : ∀ z : Int, 0 ≤ z * z := fun z => by
    by_cases hz : z = 0
    · subst hz; simp
    · have := sq z hz; omega
  refine ⟨Classical.byContradiction fun hu => ?_, Classical.byContradiction fun hv => ?_⟩
  · have := sq u hu; have := nn v; omega
  · have := sq v hv; have := nn u; omega
theorem onB_same (ax ay px py : Int) : onB ax ay ax ay px py = eqP ax ay px py := by
  unfold onB eqP
  rw [Bool.eq_iff_iff]
  simp only [Bool.and_eq_true, decide_eq_true_eq]
  constructor
  · rintro ⟨_, h⟩
    have := sq_zero h
    omega
  · rintro ⟨rfl, rfl⟩
    exact ⟨by unfold trn; simp, by unfold dotp; simp⟩
theorem onB_left (ax ay bx bY : Int) : onB ax ay bx bY ax ay = true := by
  unfold onB trn dotp
  simp
theorem lineS_eq (ax ay bx bY cx cy px py : Int) : lineS ax ay bx bY cx cy px py = (onB ax ay bx bY px py || (onB bx bY cx cy px py || onB cx cy ax ay px py)) := by
  unfold lineS
  rw [onB_comm cx cy ax ay]
  by_cases h0 : eqP ax ay px py = true
  · have h0' := h0
    unfold eqP at h0'
    simp only [Bool.and_eq_true, decide_eq_true_eq] at h0'
    obtain ⟨rfl, rfl⟩ := h0'
    rw [h0, onB_left]
    simp
  · have hb : ∀ x y u v : Int, eqP x y u v = true → onB x y u v px py = eqP x y px py := fun x y u v h => by
      unfold eqP at h
      simp only [Bool.and_eq_true, decide_eq_true_eq] at h
      obtain ⟨rfl, rfl⟩ := h
      exact onB_same x y px py
    have h1 := hb ax ay bx bY
    have h2 := hb bx bY cx cy
    have h3 := hb ax ay cx cy
    have h4 : eqP ax ay bx bY = true → eqP bx bY px py = eqP ax ay px py := fun h => by
      unfold eqP at h
      simp only [Bool.and_eq_true, decide_eq_true_eq] at h
      obtain ⟨rfl, rfl⟩ := h
      rfl
    have h5 : eqP ax ay bx bY = false → eqP bx bY px py = true → onB ax ay bx bY px py = true := fun _ h => by
      unfold eqP at h
      simp only [Bool.and_eq_true, decide_eq_true_eq] at h
      obtain ⟨rfl, rfl⟩ := h
      rw [onB_comm]; exact onB_left _ _ _ _
    rw [Bool.eq_false_iff.2 h0] at h1 h3 h4 ⊢
    clear hb h0
    generalize eqP ax ay bx bY = e1 at *
    generalize eqP bx bY cx cy = e2 at *
    generalize eqP ax ay cx cy = e3 at *
    generalize eqP bx bY px py = e4 at *
    generalize onB ax ay bx bY px py = x1 at *
    generalize onB bx bY cx cy px py = x2 at *
    generalize onB ax ay cx cy px py = x3 at *
    revert h1 h2 h3 h4 h5
    cases e1 <;> cases e2 <;> cases e3 <;> cases e4 <;> cases x1 <;> cases x2 <;> cases x3 <;> simp

set_option maxHeartbeats 4000000 in
theorem sinTriangle_any (ax ay bx bY cx cy px py : Int) (w : World) (m0 : -1000 ≤ ax) (m0' : ax ≤ 1000) (m1 : -1000 ≤ ay) (m1' : ay ≤ 1000) (m2 : -1000 ≤ bx) (m2' : bx ≤ 1000) (m3 : -1000 ≤ bY) (m3' : bY ≤ 1000) (m4 : -1000 ≤ cx) (m4' : cx ≤ 1000) (m5 : -1000 ≤ cy) (m5' : cy ≤ 1000) (m6 : -1000 ≤ px) (m6' : px ≤ 1000) (m7 : -1000 ≤ py) (m7' : py ≤ 1000) :
    Calls Try.prog 117 #[.agg #[.int .i64 ax, .int .i64 ay], .agg #[.int .i64 bx, .int .i64 bY], .agg #[.int .i64 cx, .int .i64 cy], .agg #[.int .i64 px, .int .i64 py]] w fun e w' => e = .returned (.bool (triB ax ay bx bY cx cy px py)) ∧ w.grownBy w' none := by
  generalize ho : triB ax ay bx bY cx cy px py = o
  unfold triB at ho
  rw [← lineS_eq] at ho
  unfold lineS at ho
  have HT := hide fun W => scross_any ax ay bx bY cx cy W (by omega) (by omega) (by omega) (by omega) (by omega) (by omega) (by omega) (by omega) (by omega) (by omega) (by omega) (by omega)
  have H1 := hide fun W => sonSegment_any ax ay bx bY px py W (by omega) (by omega) (by omega) (by omega) (by omega) (by omega) (by omega) (by omega) (by omega) (by omega) (by omega) (by omega)
  have H2 := hide fun W => sonSegment_any bx bY cx cy px py W (by omega) (by omega) (by omega) (by omega) (by omega) (by omega) (by omega) (by omega) (by omega) (by omega) (by omega) (by omega)
  have H3 := hide fun W => sonSegment_any ax ay cx cy px py W (by omega) (by omega) (by omega) (by omega) (by omega) (by omega) (by omega) (by omega) (by omega) (by omega) (by omega) (by omega)
  have T1 := hide fun W => scross_any ax ay bx bY px py W (by omega) (by omega) (by omega) (by omega) (by omega) (by omega) (by omega) (by omega) (by omega) (by omega) (by omega) (by omega)
  have T2 := hide fun W => scross_any bx bY cx cy px py W (by omega) (by omega) (by omega) (by omega) (by omega) (by omega) (by omega) (by omega) (by omega) (by omega) (by omega) (by omega)
  have T3 := hide fun W => scross_any cx cy ax ay px py W (by omega) (by omega) (by omega) (by omega) (by omega) (by omega) (by omega) (by omega) (by omega) (by omega) (by omega) (by omega)
  generalize onB ax ay bx bY px py = b1 at H1 ho
  generalize onB bx bY cx cy px py = b2 at H2 ho
  generalize onB ax ay cx cy px py = b3 at H3 ho
  generalize trn ax ay bx bY cx cy = t at HT ho
  generalize trn ax ay bx bY px py = x1 at T1 ho
  generalize trn bx bY cx cy px py = x2 at T2 ho
  generalize trn cx cy ax ay px py = x3 at T3 ho
  by_cases h0 : t = 0
  · rw [if_pos h0] at ho
    subst h0
    subst ho
    have s0 : sgn 0 = 0 := rfl
    clear T1 T2 T3 x1 x2 x3
    generalize he0 : eqP ax ay px py = e0
    generalize he1 : eqP ax ay bx bY = e1
    generalize he2 : eqP bx bY cx cy = e2
    generalize he3 : eqP ax ay cx cy = e3
    cases e0 with
    | true =>
      go_enter Try.func117, Try.ntmps117
      go_wp2_with fail
      first | refine (ext_call (HT.out _)).mono ?_ | refine (to_ex (HT.out _)).mono ?_
      rintro e w' ⟨rfl, xx, rfl⟩
      go_wp2_with fail
      first | refine (ext_call (ssign_any _ _)).mono ?_ | refine (to_ex (ssign_any _ _)).mono ?_
      rintro e w' ⟨rfl, xx, rfl⟩
      go_wp2_with fail
      go_ret
      exact ⟨ret_bool (by simp), (by repeat (first | with_reducible assumption | with_reducible exact gr_refl _ _ | with_reducible refine kp_alloc ?_ _ | ((with_reducible refine kp_set ?_ ?_ _); rotate_left; focus (dsimp only; omega)) | with_reducible refine kp_ex ?_ _ | with_reducible refine kp_drewN ?_ _ | with_reducible refine kp_drew ?_ | with_reducible refine kp_exr ?_ _ | with_reducible refine kp_exr' ?_ _))⟩
    | false =>
      cases e1 with
      | true =>
        cases e2 with
        | true =>
          cases e3 with
          | true =>
            go_enter Try.func117, Try.ntmps117
            go_wp2_with fail
            first | refine (ext_call (HT.out _)).mono ?_ | refine (to_ex (HT.out _)).mono ?_
            rintro e w' ⟨rfl, xx, rfl⟩
            go_wp2_with fail
            first | refine (ext_call (ssign_any _ _)).mono ?_ | refine (to_ex (ssign_any _ _)).mono ?_
            rintro e w' ⟨rfl, xx, rfl⟩
            go_wp2_with fail
            go_ret
            exact ⟨ret_bool (by simp), (by repeat (first | with_reducible assumption | with_reducible exact gr_refl _ _ | with_reducible refine kp_alloc ?_ _ | ((with_reducible refine kp_set ?_ ?_ _); rotate_left; focus (dsimp only; omega)) | with_reducible refine kp_ex ?_ _ | with_reducible refine kp_drewN ?_ _ | with_reducible refine kp_drew ?_ | with_reducible refine kp_exr ?_ _ | with_reducible refine kp_exr' ?_ _))⟩
          | false =>
            go_enter Try.func117, Try.ntmps117
            go_wp2_with fail
            first | refine (ext_call (HT.out _)).mono ?_ | refine (to_ex (HT.out _)).mono ?_
            rintro e w' ⟨rfl, xx, rfl⟩
            go_wp2_with fail
            first | refine (ext_call (ssign_any _ _)).mono ?_ | refine (to_ex (ssign_any _ _)).mono ?_
            rintro e w' ⟨rfl, xx, rfl⟩
            go_wp2_with fail
            first | refine (ext_call (H3.out _)).mono ?_ | refine (to_ex (H3.out _)).mono ?_
            rintro e w' ⟨rfl, xx, rfl⟩
            go_wp2_with fail
            go_ret
            exact ⟨ret_bool (by simp), (by repeat (first | with_reducible assumption | with_reducible exact gr_refl _ _ | with_reducible refine kp_alloc ?_ _ | ((with_reducible refine kp_set ?_ ?_ _); rotate_left; focus (dsimp only; omega)) | with_reducible refine kp_ex ?_ _ | with_reducible refine kp_drewN ?_ _ | with_reducible refine kp_drew ?_ | with_reducible refine kp_exr ?_ _ | with_reducible refine kp_exr' ?_ _))⟩
        | false =>
          cases b2 with
          | true =>
            go_enter Try.func117, Try.ntmps117
            go_wp2_with fail
            first | refine (ext_call (HT.out _)).mono ?_ | refine (to_ex (HT.out _)).mono ?_
            rintro e w' ⟨rfl, xx, rfl⟩
            go_wp2_with fail
            first | refine (ext_call (ssign_any _ _)).mono ?_ | refine (to_ex (ssign_any _ _)).mono ?_
            rintro e w' ⟨rfl, xx, rfl⟩
            go_wp2_with fail
            first | refine (ext_call (H2.out _)).mono ?_ | refine (to_ex (H2.out _)).mono ?_
            rintro e w' ⟨rfl, xx, rfl⟩
            go_wp2_with fail
            go_ret
            exact ⟨ret_bool (by simp), (by repeat (first | with_reducible assumption | with_reducible exact gr_refl _ _ | with_reducible refine kp_alloc ?_ _ | ((with_reducible refine kp_set ?_ ?_ _); rotate_left; focus (dsimp only; omega)) | with_reducible refine kp_ex ?_ _ | with_reducible refine kp_drewN ?_ _ | with_reducible refine kp_drew ?_ | with_reducible refine kp_exr ?_ _ | with_reducible refine kp_exr' ?_ _))⟩
          | false =>
            cases e3 with
            | true =>
              go_enter Try.func117, Try.ntmps117
              go_wp2_with fail
              first | refine (ext_call (HT.out _)).mono ?_ | refine (to_ex (HT.out _)).mono ?_
              rintro e w' ⟨rfl, xx, rfl⟩
              go_wp2_with fail
              first | refine (ext_call (ssign_any _ _)).mono ?_ | refine (to_ex (ssign_any _ _)).mono ?_
              rintro e w' ⟨rfl, xx, rfl⟩
              go_wp2_with fail
              first | refine (ext_call (H2.out _)).mono ?_ | refine (to_ex (H2.out _)).mono ?_
              rintro e w' ⟨rfl, xx, rfl⟩
              go_wp2_with fail
              go_ret
              exact ⟨ret_bool (by simp), (by repeat (first | with_reducible assumption | with_reducible exact gr_refl _ _ | with_reducible refine kp_alloc ?_ _ | ((with_reducible refine kp_set ?_ ?_ _); rotate_left; focus (dsimp only; omega)) | with_reducible refine kp_ex ?_ _ | with_reducible refine kp_drewN ?_ _ | with_reducible refine kp_drew ?_ | with_reducible refine kp_exr ?_ _ | with_reducible refine kp_exr' ?_ _))⟩
            | false =>
              go_enter Try.func117, Try.ntmps117
              go_wp2_with fail
              first | refine (ext_call (HT.out _)).mono ?_ | refine (to_ex (HT.out _)).mono ?_
              rintro e w' ⟨rfl, xx, rfl⟩
              go_wp2_with fail
              first | refine (ext_call (ssign_any _ _)).mono ?_ | refine (to_ex (ssign_any _ _)).mono ?_
              rintro e w' ⟨rfl, xx, rfl⟩
              go_wp2_with fail
              first | refine (ext_call (H2.out _)).mono ?_ | refine (to_ex (H2.out _)).mono ?_
              rintro e w' ⟨rfl, xx, rfl⟩
              go_wp2_with fail
              first | refine (ext_call (H3.out _)).mono ?_ | refine (to_ex (H3.out _)).mono ?_
              rintro e w' ⟨rfl, xx, rfl⟩
              go_wp2_with fail
              go_ret
              exact ⟨ret_bool (by simp), (by repeat (first | with_reducible assumption | with_reducible exact gr_refl _ _ | with_reducible refine kp_alloc ?_ _ | ((with_reducible refine kp_set ?_ ?_ _); rotate_left; focus (dsimp only; omega)) | with_reducible refine kp_ex ?_ _ | with_reducible refine kp_drewN ?_ _ | with_reducible refine kp_drew ?_ | with_reducible refine kp_exr ?_ _ | with_reducible refine kp_exr' ?_ _))⟩
      | false =>
        cases b1 with
        | true =>
          go_enter Try.func117, Try.ntmps117
          go_wp2_with fail
          first | refine (ext_call (HT.out _)).mono ?_ | refine (to_ex (HT.out _)).mono ?_
          rintro e w' ⟨rfl, xx, rfl⟩
          go_wp2_with fail
          first | refine (ext_call (ssign_any _ _)).mono ?_ | refine (to_ex (ssign_any _ _)).mono ?_
          rintro e w' ⟨rfl, xx, rfl⟩
          go_wp2_with fail
          first | refine (ext_call (H1.out _)).mono ?_ | refine (to_ex (H1.out _)).mono ?_
          rintro e w' ⟨rfl, xx, rfl⟩
          go_wp2_with fail
          go_ret
          exact ⟨ret_bool (by simp), (by repeat (first | with_reducible assumption | with_reducible exact gr_refl _ _ | with_reducible refine kp_alloc ?_ _ | ((with_reducible refine kp_set ?_ ?_ _); rotate_left; focus (dsimp only; omega)) | with_reducible refine kp_ex ?_ _ | with_reducible refine kp_drewN ?_ _ | with_reducible refine kp_drew ?_ | with_reducible refine kp_exr ?_ _ | with_reducible refine kp_exr' ?_ _))⟩
        | false =>
          cases e2 with
          | true =>
            cases e3 with
            | true =>
              go_enter Try.func117, Try.ntmps117
              go_wp2_with fail
              first | refine (ext_call (HT.out _)).mono ?_ | refine (to_ex (HT.out _)).mono ?_
              rintro e w' ⟨rfl, xx, rfl⟩
              go_wp2_with fail
              first | refine (ext_call (ssign_any _ _)).mono ?_ | refine (to_ex (ssign_any _ _)).mono ?_
              rintro e w' ⟨rfl, xx, rfl⟩
              go_wp2_with fail
              first | refine (ext_call (H1.out _)).mono ?_ | refine (to_ex (H1.out _)).mono ?_
              rintro e w' ⟨rfl, xx, rfl⟩
              go_wp2_with fail
              go_ret
              exact ⟨ret_bool (by simp), (by repeat (first | with_reducible assumption | with_reducible exact gr_refl _ _ | with_reducible refine kp_alloc ?_ _ | ((with_reducible refine kp_set ?_ ?_ _); rotate_left; focus (dsimp only; omega)) | with_reducible refine kp_ex ?_ _ | with_reducible refine kp_drewN ?_ _ | with_reducible refine kp_drew ?_ | with_reducible refine kp_exr ?_ _ | with_reducible refine kp_exr' ?_ _))⟩
            | false =>
              go_enter Try.func117, Try.ntmps117
              go_wp2_with fail
              first | refine (ext_call (HT.out _)).mono ?_ | refine (to_ex (HT.out _)).mono ?_
              rintro e w' ⟨rfl, xx, rfl⟩
              go_wp2_with fail
              first | refine (ext_call (ssign_any _ _)).mono ?_ | refine (to_ex (ssign_any _ _)).mono ?_
              rintro e w' ⟨rfl, xx, rfl⟩
              go_wp2_with fail
              first | refine (ext_call (H1.out _)).mono ?_ | refine (to_ex (H1.out _)).mono ?_
              rintro e w' ⟨rfl, xx, rfl⟩
              go_wp2_with fail
              first | refine (ext_call (H3.out _)).mono ?_ | refine (to_ex (H3.out _)).mono ?_
              rintro e w' ⟨rfl, xx, rfl⟩
              go_wp2_with fail
              go_ret
              exact ⟨ret_bool (by simp), (by repeat (first | with_reducible assumption | with_reducible exact gr_refl _ _ | with_reducible refine kp_alloc ?_ _ | ((with_reducible refine kp_set ?_ ?_ _); rotate_left; focus (dsimp only; omega)) | with_reducible refine kp_ex ?_ _ | with_reducible refine kp_drewN ?_ _ | with_reducible refine kp_drew ?_ | with_reducible refine kp_exr ?_ _ | with_reducible refine kp_exr' ?_ _))⟩
          | false =>
            cases b2 with
            | true =>
              go_enter Try.func117, Try.ntmps117
              go_wp2_with fail
              first | refine (ext_call (HT.out _)).mono ?_ | refine (to_ex (HT.out _)).mono ?_
              rintro e w' ⟨rfl, xx, rfl⟩
              go_wp2_with fail
              first | refine (ext_call (ssign_any _ _)).mono ?_ | refine (to_ex (ssign_any _ _)).mono ?_
              rintro e w' ⟨rfl, xx, rfl⟩
              go_wp2_with fail
              first | refine (ext_call (H1.out _)).mono ?_ | refine (to_ex (H1.out _)).mono ?_
              rintro e w' ⟨rfl, xx, rfl⟩
              go_wp2_with fail
              first | refine (ext_call (H2.out _)).mono ?_ | refine (to_ex (H2.out _)).mono ?_
              rintro e w' ⟨rfl, xx, rfl⟩
              go_wp2_with fail
              go_ret
              exact ⟨ret_bool (by simp), (by repeat (first | with_reducible assumption | with_reducible exact gr_refl _ _ | with_reducible refine kp_alloc ?_ _ | ((with_reducible refine kp_set ?_ ?_ _); rotate_left; focus (dsimp only; omega)) | with_reducible refine kp_ex ?_ _ | with_reducible refine kp_drewN ?_ _ | with_reducible refine kp_drew ?_ | with_reducible refine kp_exr ?_ _ | with_reducible refine kp_exr' ?_ _))⟩
            | false =>
              cases e3 with
              | true =>
                go_enter Try.func117, Try.ntmps117
                go_wp2_with fail
                first | refine (ext_call (HT.out _)).mono ?_ | refine (to_ex (HT.out _)).mono ?_
                rintro e w' ⟨rfl, xx, rfl⟩
                go_wp2_with fail
                first | refine (ext_call (ssign_any _ _)).mono ?_ | refine (to_ex (ssign_any _ _)).mono ?_
                rintro e w' ⟨rfl, xx, rfl⟩
                go_wp2_with fail
                first | refine (ext_call (H1.out _)).mono ?_ | refine (to_ex (H1.out _)).mono ?_
                rintro e w' ⟨rfl, xx, rfl⟩
                go_wp2_with fail
                first | refine (ext_call (H2.out _)).mono ?_ | refine (to_ex (H2.out _)).mono ?_
                rintro e w' ⟨rfl, xx, rfl⟩
                go_wp2_with fail
                go_ret
                exact ⟨ret_bool (by simp), (by repeat (first | with_reducible assumption | with_reducible exact gr_refl _ _ | with_reducible refine kp_alloc ?_ _ | ((with_reducible refine kp_set ?_ ?_ _); rotate_left; focus (dsimp only; omega)) | with_reducible refine kp_ex ?_ _ | with_reducible refine kp_drewN ?_ _ | with_reducible refine kp_drew ?_ | with_reducible refine kp_exr ?_ _ | with_reducible refine kp_exr' ?_ _))⟩
              | false =>
                go_enter Try.func117, Try.ntmps117
                go_wp2_with fail
                first | refine (ext_call (HT.out _)).mono ?_ | refine (to_ex (HT.out _)).mono ?_
                rintro e w' ⟨rfl, xx, rfl⟩
                go_wp2_with fail
                first | refine (ext_call (ssign_any _ _)).mono ?_ | refine (to_ex (ssign_any _ _)).mono ?_
                rintro e w' ⟨rfl, xx, rfl⟩
                go_wp2_with fail
                first | refine (ext_call (H1.out _)).mono ?_ | refine (to_ex (H1.out _)).mono ?_
                rintro e w' ⟨rfl, xx, rfl⟩
                go_wp2_with fail
                first | refine (ext_call (H2.out _)).mono ?_ | refine (to_ex (H2.out _)).mono ?_
                rintro e w' ⟨rfl, xx, rfl⟩
                go_wp2_with fail
                first | refine (ext_call (H3.out _)).mono ?_ | refine (to_ex (H3.out _)).mono ?_
                rintro e w' ⟨rfl, xx, rfl⟩
                go_wp2_with fail
                go_ret
                exact ⟨ret_bool (by simp), (by repeat (first | with_reducible assumption | with_reducible exact gr_refl _ _ | with_reducible refine kp_alloc ?_ _ | ((with_reducible refine kp_set ?_ ?_ _); rotate_left; focus (dsimp only; omega)) | with_reducible refine kp_ex ?_ _ | with_reducible refine kp_drewN ?_ _ | with_reducible refine kp_drew ?_ | with_reducible refine kp_exr ?_ _ | with_reducible refine kp_exr' ?_ _))⟩
  · rw [if_neg h0] at ho
    have hs : sgn t = 1 ∨ sgn t = -1 := by unfold sgn; split <;> (try split) <;> omega
    have hs0 : (sgn t == 0) = false := by simp [sgn_zero', h0]
    have k1 := sgn_mul_iff (sgn t) x1 hs
    have k2 := sgn_mul_iff (sgn t) x2 hs
    have k3 := sgn_mul_iff (sgn t) x3 hs
    have e1 : decide (0 ≤ sgn t * x1) = decide (0 ≤ sgn x1 * sgn t) := by rw [Bool.eq_iff_iff]; simp only [decide_eq_true_eq]; exact k1.symm
    have e2 : decide (0 ≤ sgn t * x2) = decide (0 ≤ sgn x2 * sgn t) := by rw [Bool.eq_iff_iff]; simp only [decide_eq_true_eq]; exact k2.symm
    have e3 : decide (0 ≤ sgn t * x3) = decide (0 ≤ sgn x3 * sgn t) := by rw [Bool.eq_iff_iff]; simp only [decide_eq_true_eq]; exact k3.symm
    rw [e1, e2, e3] at ho
    clear e1 e2 e3 k1 k2 k3
    have y1 := sgn_bd x1
    have y2 := sgn_bd x2
    have y3 := sgn_bd x3
    have SG := hide fun W => ssign_any t W
    have S1 := hide fun W => ssign_any x1 W
    have S2 := hide fun W => ssign_any x2 W
    have S3 := hide fun W => ssign_any x3 W
    generalize sgn t = s at hs ho hs0 SG
    generalize sgn x1 = z1 at ho y1 S1
    generalize sgn x2 = z2 at ho y2 S2
    generalize sgn x3 = z3 at ho y3 S3
    have HO := hide ho
    clear ho H1 H2 H3 h0
    have hs1 : -1 ≤ s := by omega
    have hs2 : s ≤ 1 := by omega
    clear hs
    obtain ⟨q1a, q1b⟩ := y1
    obtain ⟨q2a, q2b⟩ := y2
    obtain ⟨q3a, q3b⟩ := y3
    obtain ⟨mb4a, mb4b⟩ := mul_bd (z1) (s) (1) (1) (by omega) (by omega) (by omega) (by omega)
    obtain ⟨mb5a, mb5b⟩ := mul_bd (z2) (s) (1) (1) (by omega) (by omega) (by omega) (by omega)
    obtain ⟨mb6a, mb6b⟩ := mul_bd (z3) (s) (1) (1) (by omega) (by omega) (by omega) (by omega)
    by_cases c1 : 0 ≤ z1 * s
    · by_cases c2 : 0 ≤ z2 * s
      · by_cases c3 : 0 ≤ z3 * s
        · skip
          go_enter Try.func117, Try.ntmps117
          go_wp2_with fail
          first | refine (ext_call (HT.out _)).mono ?_ | refine (to_ex (HT.out _)).mono ?_
          rintro e w' ⟨rfl, xx, rfl⟩
          go_wp2_with fail
          first | refine (ext_call (SG.out _)).mono ?_ | refine (to_ex (SG.out _)).mono ?_
          rintro e w' ⟨rfl, xx, rfl⟩
          go_wp2_with fail
          first | refine (ext_call (T1.out _)).mono ?_ | refine (to_ex (T1.out _)).mono ?_
          rintro e w' ⟨rfl, xx, rfl⟩
          go_wp2_with fail
          first | refine (ext_call (S1.out _)).mono ?_ | refine (to_ex (S1.out _)).mono ?_
          rintro e w' ⟨rfl, xx, rfl⟩
          go_wp2_with fail
          first | refine (ext_call (T2.out _)).mono ?_ | refine (to_ex (T2.out _)).mono ?_
          rintro e w' ⟨rfl, xx, rfl⟩
          go_wp2_with fail
          first | refine (ext_call (S2.out _)).mono ?_ | refine (to_ex (S2.out _)).mono ?_
          rintro e w' ⟨rfl, xx, rfl⟩
          go_wp2_with fail
          first | refine (ext_call (T3.out _)).mono ?_ | refine (to_ex (T3.out _)).mono ?_
          rintro e w' ⟨rfl, xx, rfl⟩
          go_wp2_with fail
          first | refine (ext_call (S3.out _)).mono ?_ | refine (to_ex (S3.out _)).mono ?_
          rintro e w' ⟨rfl, xx, rfl⟩
          go_wp2_with fail
          go_ret
          exact ⟨ret_bool (by rw [← HO.out, Bool.eq_iff_iff]; first | (simp; done) | (simp; omega)), (by repeat (first | with_reducible assumption | with_reducible exact gr_refl _ _ | with_reducible refine kp_alloc ?_ _ | ((with_reducible refine kp_set ?_ ?_ _); rotate_left; focus (dsimp only; omega)) | with_reducible refine kp_ex ?_ _ | with_reducible refine kp_drewN ?_ _ | with_reducible refine kp_drew ?_ | with_reducible refine kp_exr ?_ _ | with_reducible refine kp_exr' ?_ _))⟩
        · skip
          go_enter Try.func117, Try.ntmps117
          go_wp2_with fail
          first | refine (ext_call (HT.out _)).mono ?_ | refine (to_ex (HT.out _)).mono ?_
          rintro e w' ⟨rfl, xx, rfl⟩
          go_wp2_with fail
          first | refine (ext_call (SG.out _)).mono ?_ | refine (to_ex (SG.out _)).mono ?_
          rintro e w' ⟨rfl, xx, rfl⟩
          go_wp2_with fail
          first | refine (ext_call (T1.out _)).mono ?_ | refine (to_ex (T1.out _)).mono ?_
          rintro e w' ⟨rfl, xx, rfl⟩
          go_wp2_with fail
          first | refine (ext_call (S1.out _)).mono ?_ | refine (to_ex (S1.out _)).mono ?_
          rintro e w' ⟨rfl, xx, rfl⟩
          go_wp2_with fail
          first | refine (ext_call (T2.out _)).mono ?_ | refine (to_ex (T2.out _)).mono ?_
          rintro e w' ⟨rfl, xx, rfl⟩
          go_wp2_with fail
          first | refine (ext_call (S2.out _)).mono ?_ | refine (to_ex (S2.out _)).mono ?_
          rintro e w' ⟨rfl, xx, rfl⟩
          go_wp2_with fail
          first | refine (ext_call (T3.out _)).mono ?_ | refine (to_ex (T3.out _)).mono ?_
          rintro e w' ⟨rfl, xx, rfl⟩
          go_wp2_with fail
          first | refine (ext_call (S3.out _)).mono ?_ | refine (to_ex (S3.out _)).mono ?_
          rintro e w' ⟨rfl, xx, rfl⟩
          go_wp2_with fail
          go_ret
          exact ⟨ret_bool (by rw [← HO.out, Bool.eq_iff_iff]; first | (simp; done) | (simp; omega)), (by repeat (first | with_reducible assumption | with_reducible exact gr_refl _ _ | with_reducible refine kp_alloc ?_ _ | ((with_reducible refine kp_set ?_ ?_ _); rotate_left; focus (dsimp only; omega)) | with_reducible refine kp_ex ?_ _ | with_reducible refine kp_drewN ?_ _ | with_reducible refine kp_drew ?_ | with_reducible refine kp_exr ?_ _ | with_reducible refine kp_exr' ?_ _))⟩
      · skip
        go_enter Try.func117, Try.ntmps117
        go_wp2_with fail
        first | refine (ext_call (HT.out _)).mono ?_ | refine (to_ex (HT.out _)).mono ?_
        rintro e w' ⟨rfl, xx, rfl⟩
        go_wp2_with fail
        first | refine (ext_call (SG.out _)).mono ?_ | refine (to_ex (SG.out _)).mono ?_
        rintro e w' ⟨rfl, xx, rfl⟩
        go_wp2_with fail
        first | refine (ext_call (T1.out _)).mono ?_ | refine (to_ex (T1.out _)).mono ?_
        rintro e w' ⟨rfl, xx, rfl⟩
        go_wp2_with fail
        first | refine (ext_call (S1.out _)).mono ?_ | refine (to_ex (S1.out _)).mono ?_
        rintro e w' ⟨rfl, xx, rfl⟩
        go_wp2_with fail
        first | refine (ext_call (T2.out _)).mono ?_ | refine (to_ex (T2.out _)).mono ?_
        rintro e w' ⟨rfl, xx, rfl⟩
        go_wp2_with fail
        first | refine (ext_call (S2.out _)).mono ?_ | refine (to_ex (S2.out _)).mono ?_
        rintro e w' ⟨rfl, xx, rfl⟩
        go_wp2_with fail
        go_ret
        exact ⟨ret_bool (by rw [← HO.out, Bool.eq_iff_iff]; first | (simp; done) | (simp; omega)), (by repeat (first | with_reducible assumption | with_reducible exact gr_refl _ _ | with_reducible refine kp_alloc ?_ _ | ((with_reducible refine kp_set ?_ ?_ _); rotate_left; focus (dsimp only; omega)) | with_reducible refine kp_ex ?_ _ | with_reducible refine kp_drewN ?_ _ | with_reducible refine kp_drew ?_ | with_reducible refine kp_exr ?_ _ | with_reducible refine kp_exr' ?_ _))⟩
    · skip
      go_enter Try.func117, Try.ntmps117
      go_wp2_with fail
      first | refine (ext_call (HT.out _)).mono ?_ | refine (to_ex (HT.out _)).mono ?_
      rintro e w' ⟨rfl, xx, rfl⟩
      go_wp2_with fail
      first | refine (ext_call (SG.out _)).mono ?_ | refine (to_ex (SG.out _)).mono ?_
      rintro e w' ⟨rfl, xx, rfl⟩
      go_wp2_with fail
      first | refine (ext_call (T1.out _)).mono ?_ | refine (to_ex (T1.out _)).mono ?_
      rintro e w' ⟨rfl, xx, rfl⟩
      go_wp2_with fail
      first | refine (ext_call (S1.out _)).mono ?_ | refine (to_ex (S1.out _)).mono ?_
      rintro e w' ⟨rfl, xx, rfl⟩
      go_wp2_with fail
      go_ret
      exact ⟨ret_bool (by rw [← HO.out, Bool.eq_iff_iff]; first | (simp; done) | (simp; omega)), (by repeat (first | with_reducible assumption | with_reducible exact gr_refl _ _ | with_reducible refine kp_alloc ?_ _ | ((with_reducible refine kp_set ?_ ?_ _); rotate_left; focus (dsimp only; omega)) | with_reducible refine kp_ex ?_ _ | with_reducible refine kp_drewN ?_ _ | with_reducible refine kp_drew ?_ | with_reducible refine kp_exr ?_ _ | with_reducible refine kp_exr' ?_ _))⟩
end Go.Proofs.Ytndkhbilefljnaa
