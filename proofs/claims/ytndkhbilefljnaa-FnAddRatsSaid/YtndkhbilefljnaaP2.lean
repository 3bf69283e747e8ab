/- Contracts: signs, orientation, distances. -/
import Derived.Test.YtndkhbilefljnaaLs
namespace Go.Proofs.Ytndkhbilefljnaa
open Go.RowKit

/-- The sign of a number. -/
def sgn (n : Int) : Int := if n < 0 then -1 else if 0 < n then 1 else 0
theorem sgn_bd (n : Int) : -1 ≤ sgn n ∧ sgn n ≤ 1 := by unfold sgn; split <;> (try split) <;> omega
def cmpI (a b : Int) : Int := if a < b then -1 else if b < a then 1 else 0
theorem cmpI_sgn (a b : Int) : cmpI a b = sgn (a - b) := by unfold cmpI sgn; split <;> (try split) <;> (try split) <;> (try split) <;> omega
theorem cmpI_zero (a : Int) : cmpI a 0 = sgn a := by rw [cmpI_sgn]; simp
theorem cmp_any (a b : Int) (w : World) : Calls Try.prog 136 #[.int .i64 a, .int .i64 b] w fun e w' => e = .returned (.int .i64 (cmpI a b)) ∧ w.grownBy w' none := by
  by_cases h1 : a < b
  · go_enter Try.func136, Try.ntmps136
    go_wp2
    go_ret
    exact ⟨ret_int (by unfold cmpI; rw [if_pos h1]), gr_refl w none⟩
  · by_cases h2 : b < a
    · go_enter Try.func136, Try.ntmps136
      go_wp2
      go_ret
      exact ⟨ret_int (by unfold cmpI; rw [if_neg (by omega), if_pos h2]), gr_refl w none⟩
    · go_enter Try.func136, Try.ntmps136
      go_wp2
      go_ret
      exact ⟨ret_int (by unfold cmpI; rw [if_neg (by omega), if_neg (by omega)]), gr_refl w none⟩
theorem sign_any (a : Int) (w : World) : Calls Try.prog 105 #[.int .i64 a] w fun e w' => e = .returned (.int .i64 (sgn a)) ∧ w.grownBy w' none := by
  rw [← cmpI_zero]
  go_enter Try.func105, Try.ntmps105
  go_wp2_with fail
  refine (cmp_any _ _ _).mono ?_
  rintro e w' ⟨rfl, hk⟩
  go_wp2_with fail
  go_ret
  exact ⟨rfl, hk⟩

theorem pts_of {w : World} {b : Nat} {t : TypeId} {cs : Array Value} {l : List Pt} (h : Blk w b t cs) (hc : cs.toList = l.flatMap encP) : Pts w (some ⟨b, 0, none⟩) l := by
  intro hl
  refine ⟨b, 0, rfl, h.lt, fun j x hj i v hv => ?_⟩
  rw [Nat.zero_add, h.cell, ← Array.getElem?_toList, hc]
  clear hc hl h
  induction l generalizing j with
  | nil => simp at hj
  | cons q l ih =>
    cases j with
    | zero =>
      simp at hj
      subst hj
      match i, hv with
      | 0, hv => simpa [encP] using hv
      | 1, hv => simpa [encP] using hv
    | succ j =>
      have := ih j (by simpa using hj)
      rw [List.flatMap_cons, List.getElem?_append_right (by simp [encP]; omega)]
      rw [← this]
      congr 1
      simp [encP]
      omega

theorem pts_new (w : World) (t : TypeId) (l : List Pt) (b : Nat) (cs : Array Value) (hb : b = w.heap.size) (hc : cs.toList = l.flatMap encP) : Pts (w.alloc (.cells cs t)) (some ⟨b, 0, none⟩) l := by
  subst hb
  exact pts_of (Blk.new w t cs) hc

theorem orient_any (ax ay bx bY cx cy : Int) (w : World) :
    Calls Try.prog 40 #[.agg #[.int .i64 ax, .int .i64 ay], .agg #[.int .i64 bx, .int .i64 bY], .agg #[.int .i64 cx, .int .i64 cy]] w fun e w' => e = .returned (.int .i64 (if (okP ax ay && okP bx bY && okP cx cy) = true then sgn (trn ax ay bx bY cx cy) else 2)) ∧ w.grownBy w' none := by
  have hv := fun W => allValid_any (some ⟨w.heap.size + 1 + 1 + 1, 0, none⟩) [(ax, ay), (bx, bY), (cx, cy)] 3 W (by simp)
  by_cases h : (okP ax ay && okP bx bY && okP cx cy) = true
  · have h' : allP [(ax, ay), (bx, bY), (cx, cy)] = true := by unfold allP; simpa [Bool.and_assoc] using h
    rw [if_pos h]
    rw [h'] at hv
    simp only [Bool.and_eq_true] at h
    obtain ⟨⟨ha, hb⟩, hc⟩ := h
    have a1 := okP_bd ha
    have b1 := okP_bd hb
    have c1 := okP_bd hc
    have HV := hide hv
    clear hv h' ha hb hc
    go_enter Try.func40, Try.ntmps40
    go_wp2_with fail
    refine (to_ex (HV.out _ (by exact pts_new _ _ _ _ _ (by simp) rfl))).mono ?_
    rintro e w' ⟨rfl, x, rfl⟩
    go_wp2_with fail
    refine (to_ex (turn_any ax ay bx bY cx cy _ (by omega) (by omega) (by omega) (by omega) (by omega) (by omega) (by omega) (by omega) (by omega) (by omega) (by omega) (by omega))).mono ?_
    rintro e w' ⟨rfl, y, rfl⟩
    go_wp2_with fail
    refine (to_ex (sign_any _ _)).mono ?_
    rintro e w' ⟨rfl, z, rfl⟩
    go_wp2_with fail
    go_ret
    exact ⟨rfl, by repeat (first | exact gr_refl _ _ | refine kp_ex ?_ _ | refine kp_alloc ?_ _ | refine kp_drewN ?_ _)⟩
  · have h' : allP [(ax, ay), (bx, bY), (cx, cy)] = false := by unfold allP; simpa [Bool.and_assoc] using h
    rw [if_neg h]
    rw [h'] at hv
    have HV := hide hv
    clear hv h'
    go_enter Try.func40, Try.ntmps40
    go_wp2_with fail
    refine (to_ex (HV.out _ (by exact pts_new _ _ _ _ _ (by simp) rfl))).mono ?_
    rintro e w' ⟨rfl, x, rfl⟩
    go_wp2_with fail
    go_ret
    exact ⟨rfl, by repeat (first | exact gr_refl _ _ | refine kp_ex ?_ _ | refine kp_alloc ?_ _ | refine kp_drewN ?_ _)⟩
end Go.Proofs.Ytndkhbilefljnaa
