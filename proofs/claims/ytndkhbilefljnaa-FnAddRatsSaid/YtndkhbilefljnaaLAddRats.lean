/- FnAddRats: the walk. -/
import Derived.Test.YtndkhbilefljnaaRg
namespace Go.Proofs.Ytndkhbilefljnaa.FnAddRats
open Go.RowKit
set_option linter.unusedSimpArgs false
set_option linter.unusedVariables false

theorem add_comm_ok (a0 a1 b0 b1 : Int) : addOK b0 b1 a0 a1 = addOK a0 a1 b0 b1 := by
  unfold addOK
  rw [Int.add_comm (b0 * a1), Int.mul_comm b1 a1]
  cases okR a0 a1 <;> cases okR b0 b1 <;> simp
theorem add_comm_n (a0 a1 b0 b1 : Int) : addN b0 b1 a0 a1 = addN a0 a1 b0 b1 := by
  unfold addN
  rw [add_comm_ok, Int.add_comm (b0 * a1), Int.mul_comm b1 a1]
theorem add_comm_d (a0 a1 b0 b1 : Int) : addD b0 b1 a0 a1 = addD a0 a1 b0 b1 := by
  unfold addD
  rw [add_comm_ok, Int.add_comm (b0 * a1), Int.mul_comm b1 a1]

theorem sign_t (g t s a : Int) (hg : 1 ≤ g) (ha : 1 ≤ a) (h : g * t = s * a * a) : (0 < s → 0 < t) ∧ (s < 0 → t < 0) ∧ (s = 0 → t = 0) := by
  refine ⟨fun hs => ?_, fun hs => ?_, fun hs => ?_⟩
  · have h1 : 0 < s * a * a := Int.mul_pos (Int.mul_pos hs (by omega)) (by omega)
    rw [← h] at h1
    exact Int.pos_of_mul_pos_right h1 (by omega)
  · have h1 : 0 < -s * a * a := Int.mul_pos (Int.mul_pos (by omega) (by omega)) (by omega)
    have h2 : 0 < g * (-t) := by rw [Int.neg_mul, Int.neg_mul, ← h] at h1; rw [Int.mul_neg]; exact h1
    have := Int.pos_of_mul_pos_right h2 (by omega)
    omega
  · subst hs
    have h2 : g * t = 0 := by rw [h]; simp
    rcases Int.mul_eq_zero.1 h2 with h3 | h3
    · omega
    · exact h3

theorem ok_add {a0 a1 b0 b1 : Int} (h : addOK a0 a1 b0 b1 = true) : okR (addN a0 a1 b0 b1) (addD a0 a1 b0 b1) = true := by
  unfold addN addD orZ
  rw [if_pos h, if_pos h]
  unfold addOK at h
  simp only [Bool.and_eq_true] at h
  exact h.2.2
theorem cmp_add {a0 a1 b0 b1 : Int} (h : addOK a0 a1 b0 b1 = true) : cmpR (addN a0 a1 b0 b1) (addD a0 a1 b0 b1) a0 a1 = cmpI b0 0 := by
  have h1 := ok_add h
  have hh := h
  unfold addOK at hh
  simp only [Bool.and_eq_true] at hh
  obtain ⟨ha, hb, _⟩ := hh
  unfold cmpR
  rw [if_pos h1, if_pos ha]
  unfold addN addD orZ
  rw [if_pos h, if_pos h]
  obtain ⟨_, ⟨p3, p4⟩, _⟩ := okR_bd ha
  obtain ⟨_, ⟨p5, p6⟩, _⟩ := okR_bd hb
  have hp : 1 ≤ a1 * b1 := by have := Int.mul_pos (a := a1) (b := b1) (by omega) (by omega); omega
  unfold redN redD
  rw [if_neg (by omega), if_neg (by omega)]
  have hg := gcdI_pos (a0 * b1 + b0 * a1) (a1 * b1) (by omega)
  have e1 := Int.mul_ediv_cancel' (gcdI_left (a0 * b1 + b0 * a1) (a1 * b1))
  have e2 := Int.mul_ediv_cancel' (gcdI_right (a0 * b1 + b0 * a1) (a1 * b1))
  generalize gcdI (a0 * b1 + b0 * a1) (a1 * b1) = g at *
  generalize (a0 * b1 + b0 * a1) / g = n at *
  generalize (a1 * b1) / g = d at *
  obtain ⟨t1, t2, t3⟩ := sign_t g (n * a1 - a0 * d) b0 a1 hg p3 (by grind)
  generalize n * a1 = u at *
  generalize a0 * d = v at *
  unfold cmpI
  split <;> split <;> (try split) <;> (try split) <;> omega

attribute [local go_sem ↓] run_eql_pt run_neq_pt
theorem eqP_self (x y : Int) : eqP x y x y = true := by simp [eqP]

set_option maxHeartbeats 1000000 in
theorem walk : Walk1 13 := by
  intro A m c w hc
  by_cases hm : m ≤ 1048576
  · go_enter Try.func13, Try.ntmps13
    go_wp2_with fail
    refine (drawAddRats_any A m c _ hc hm).mono ?_
    rintro e w1 ⟨a0, a1, b0, b1, _, _, _, _, rfl, K⟩
    have H1 := hide fun W => iAddRats_any a0 a1 b0 b1 W
    have H2 := hide fun W => sAddRats_any a0 a1 b0 b1 W
    have H3 := hide fun W => iAddRats_any b0 b1 a0 a1 W
    rw [add_comm_ok, add_comm_n, add_comm_d] at H3
    by_cases ho : addOK a0 a1 b0 b1 = true
    · have H4 := hide fun W => iCompareRats_any (addN a0 a1 b0 b1) (addD a0 a1 b0 b1) a0 a1 W
      have H5 := hide fun W => iValidRat_any (addN a0 a1 b0 b1) (addD a0 a1 b0 b1) W
      rw [cmp_add ho] at H4
      rw [ok_add ho] at H5
      rw [ho] at H1 H2 H3
      generalize addN a0 a1 b0 b1 = n at *
      generalize addD a0 a1 b0 b1 = d at *
      have hself := eqP_self n d
      clear ho hc
      rcases Int.lt_trichotomy b0 0 with hs | hs | hs
      · have e : cmpI b0 0 = -1 := by unfold cmpI; split <;> omega
        rw [e] at H4
        have g1 : ¬ 0 < b0 := by omega
        clear e
        go_wp2_with fail
        have BA := (Blk.at_ w1 24 #[.int .i64 a0, .int .i64 a1] w1.heap.size rfl).alloc (.cells #[.int .i64 b0, .int .i64 b1] 24)
        have BB : Blk ((w1.alloc (.cells #[.int .i64 a0, .int .i64 a1] 24)).alloc (.cells #[.int .i64 b0, .int .i64 b1] 24)) (w1.heap.size + 1) 24 #[.int .i64 b0, .int .i64 b1] := Blk.at_ _ _ _ _ (by simp)
        refine (H1.out _).mono ?_
        rintro e w2 ⟨rfl, hg⟩
        have K : w.grownBy w2 none := kp_trans (by repeat (first | with_reducible assumption | with_reducible exact gr_refl _ _ | with_reducible refine kp_alloc ?_ _ | ((with_reducible refine kp_set ?_ ?_ _); rotate_left; focus (dsimp only; omega)) | with_reducible refine kp_ex ?_ _ | with_reducible refine kp_drewN ?_ _ | with_reducible refine kp_drew ?_ | with_reducible refine kp_exr ?_ _ | with_reducible refine kp_exr' ?_ _)) hg
        have BA := BA.kp hg
        have BB := BB.kp hg
        have hzw2 := hg.size
        try simp only [World.size_alloc] at hzw2
        clear hg
        obtain ⟨cBA0, cBA1, _, _, _⟩ := two_cells BA
        obtain ⟨cBB0, cBB1, _, _, _⟩ := two_cells BB
        go_wp2_with fail
        have BA := BA.alloc (.cells #[.int .i64 n, .int .i64 d] 24)
        have BB := BB.alloc (.cells #[.int .i64 n, .int .i64 d] 24)
        have BX := Blk.at_ w2 24 #[.int .i64 n, .int .i64 d] w2.heap.size rfl
        refine (H2.out _).mono ?_
        rintro e w3 ⟨rfl, hg⟩
        have K : w.grownBy w3 none := kp_trans (by repeat (first | with_reducible assumption | with_reducible exact gr_refl _ _ | with_reducible refine kp_alloc ?_ _ | ((with_reducible refine kp_set ?_ ?_ _); rotate_left; focus (dsimp only; omega)) | with_reducible refine kp_ex ?_ _ | with_reducible refine kp_drewN ?_ _ | with_reducible refine kp_drew ?_ | with_reducible refine kp_exr ?_ _ | with_reducible refine kp_exr' ?_ _)) hg
        have BA := BA.kp hg
        have BB := BB.kp hg
        have BX := BX.kp hg
        have hzw3 := hg.size
        try simp only [World.size_alloc] at hzw3
        clear hg
        obtain ⟨cBA0, cBA1, _, _, _⟩ := two_cells BA
        obtain ⟨cBB0, cBB1, _, _, _⟩ := two_cells BB
        obtain ⟨cBX0, cBX1, _, _, _⟩ := two_cells BX
        go_wp2_with fail
        have BA := BA.alloc (.cells #[.int .i64 n, .int .i64 d] 24)
        have BB := BB.alloc (.cells #[.int .i64 n, .int .i64 d] 24)
        have BX := BX.alloc (.cells #[.int .i64 n, .int .i64 d] 24)
        have BW := Blk.at_ w3 24 #[.int .i64 n, .int .i64 d] w3.heap.size rfl
        refine (H3.out _).mono ?_
        rintro e w4 ⟨rfl, hg⟩
        have K : w.grownBy w4 none := kp_trans (by repeat (first | with_reducible assumption | with_reducible exact gr_refl _ _ | with_reducible refine kp_alloc ?_ _ | ((with_reducible refine kp_set ?_ ?_ _); rotate_left; focus (dsimp only; omega)) | with_reducible refine kp_ex ?_ _ | with_reducible refine kp_drewN ?_ _ | with_reducible refine kp_drew ?_ | with_reducible refine kp_exr ?_ _ | with_reducible refine kp_exr' ?_ _)) hg
        have BA := BA.kp hg
        have BB := BB.kp hg
        have BX := BX.kp hg
        have BW := BW.kp hg
        have hzw4 := hg.size
        try simp only [World.size_alloc] at hzw4
        clear hg
        obtain ⟨cBA0, cBA1, _, _, _⟩ := two_cells BA
        obtain ⟨cBB0, cBB1, _, _, _⟩ := two_cells BB
        obtain ⟨cBX0, cBX1, _, _, _⟩ := two_cells BX
        obtain ⟨cBW0, cBW1, _, _, _⟩ := two_cells BW
        go_wp2_with fail
        have BA := BA.alloc (.cells #[.int .i64 n, .int .i64 d] 24)
        have BB := BB.alloc (.cells #[.int .i64 n, .int .i64 d] 24)
        have BX := BX.alloc (.cells #[.int .i64 n, .int .i64 d] 24)
        have BW := BW.alloc (.cells #[.int .i64 n, .int .i64 d] 24)
        have BY := Blk.at_ w4 24 #[.int .i64 n, .int .i64 d] w4.heap.size rfl
        first | refine (ext_call (H4.out _)).mono ?_ | refine (to_ex (H4.out _)).mono ?_
        rintro e w' ⟨rfl, xx, rfl⟩
        go_wp2_with fail
        first | refine (ext_call (H5.out _)).mono ?_ | refine (to_ex (H5.out _)).mono ?_
        rintro e w' ⟨rfl, xx, rfl⟩
        go_wp2_with fail
        go_ret
        exact ⟨by first | rfl | (simp only [decide_eq_false (show ¬ 0 < b0 by omega)]; rfl), (by repeat (first | with_reducible assumption | with_reducible exact gr_refl _ _ | with_reducible refine kp_alloc ?_ _ | ((with_reducible refine kp_set ?_ ?_ _); rotate_left; focus (dsimp only; omega)) | with_reducible refine kp_ex ?_ _ | with_reducible refine kp_drewN ?_ _ | with_reducible refine kp_drew ?_ | with_reducible refine kp_exr ?_ _ | with_reducible refine kp_exr' ?_ _))⟩
      · have e : cmpI b0 0 = 0 := by unfold cmpI; split <;> (try split) <;> omega
        rw [e] at H4
        subst hs
        clear e
        go_wp2_with fail
        have BA := (Blk.at_ w1 24 #[.int .i64 a0, .int .i64 a1] w1.heap.size rfl).alloc (.cells #[.int .i64 0, .int .i64 b1] 24)
        have BB : Blk ((w1.alloc (.cells #[.int .i64 a0, .int .i64 a1] 24)).alloc (.cells #[.int .i64 0, .int .i64 b1] 24)) (w1.heap.size + 1) 24 #[.int .i64 0, .int .i64 b1] := Blk.at_ _ _ _ _ (by simp)
        refine (H1.out _).mono ?_
        rintro e w2 ⟨rfl, hg⟩
        have K : w.grownBy w2 none := kp_trans (by repeat (first | with_reducible assumption | with_reducible exact gr_refl _ _ | with_reducible refine kp_alloc ?_ _ | ((with_reducible refine kp_set ?_ ?_ _); rotate_left; focus (dsimp only; omega)) | with_reducible refine kp_ex ?_ _ | with_reducible refine kp_drewN ?_ _ | with_reducible refine kp_drew ?_ | with_reducible refine kp_exr ?_ _ | with_reducible refine kp_exr' ?_ _)) hg
        have BA := BA.kp hg
        have BB := BB.kp hg
        have hzw2 := hg.size
        try simp only [World.size_alloc] at hzw2
        clear hg
        obtain ⟨cBA0, cBA1, _, _, _⟩ := two_cells BA
        obtain ⟨cBB0, cBB1, _, _, _⟩ := two_cells BB
        go_wp2_with fail
        have BA := BA.alloc (.cells #[.int .i64 n, .int .i64 d] 24)
        have BB := BB.alloc (.cells #[.int .i64 n, .int .i64 d] 24)
        have BX := Blk.at_ w2 24 #[.int .i64 n, .int .i64 d] w2.heap.size rfl
        refine (H2.out _).mono ?_
        rintro e w3 ⟨rfl, hg⟩
        have K : w.grownBy w3 none := kp_trans (by repeat (first | with_reducible assumption | with_reducible exact gr_refl _ _ | with_reducible refine kp_alloc ?_ _ | ((with_reducible refine kp_set ?_ ?_ _); rotate_left; focus (dsimp only; omega)) | with_reducible refine kp_ex ?_ _ | with_reducible refine kp_drewN ?_ _ | with_reducible refine kp_drew ?_ | with_reducible refine kp_exr ?_ _ | with_reducible refine kp_exr' ?_ _)) hg
        have BA := BA.kp hg
        have BB := BB.kp hg
        have BX := BX.kp hg
        have hzw3 := hg.size
        try simp only [World.size_alloc] at hzw3
        clear hg
        obtain ⟨cBA0, cBA1, _, _, _⟩ := two_cells BA
        obtain ⟨cBB0, cBB1, _, _, _⟩ := two_cells BB
        obtain ⟨cBX0, cBX1, _, _, _⟩ := two_cells BX
        go_wp2_with fail
        have BA := BA.alloc (.cells #[.int .i64 n, .int .i64 d] 24)
        have BB := BB.alloc (.cells #[.int .i64 n, .int .i64 d] 24)
        have BX := BX.alloc (.cells #[.int .i64 n, .int .i64 d] 24)
        have BW := Blk.at_ w3 24 #[.int .i64 n, .int .i64 d] w3.heap.size rfl
        refine (H3.out _).mono ?_
        rintro e w4 ⟨rfl, hg⟩
        have K : w.grownBy w4 none := kp_trans (by repeat (first | with_reducible assumption | with_reducible exact gr_refl _ _ | with_reducible refine kp_alloc ?_ _ | ((with_reducible refine kp_set ?_ ?_ _); rotate_left; focus (dsimp only; omega)) | with_reducible refine kp_ex ?_ _ | with_reducible refine kp_drewN ?_ _ | with_reducible refine kp_drew ?_ | with_reducible refine kp_exr ?_ _ | with_reducible refine kp_exr' ?_ _)) hg
        have BA := BA.kp hg
        have BB := BB.kp hg
        have BX := BX.kp hg
        have BW := BW.kp hg
        have hzw4 := hg.size
        try simp only [World.size_alloc] at hzw4
        clear hg
        obtain ⟨cBA0, cBA1, _, _, _⟩ := two_cells BA
        obtain ⟨cBB0, cBB1, _, _, _⟩ := two_cells BB
        obtain ⟨cBX0, cBX1, _, _, _⟩ := two_cells BX
        obtain ⟨cBW0, cBW1, _, _, _⟩ := two_cells BW
        go_wp2_with fail
        have BA := BA.alloc (.cells #[.int .i64 n, .int .i64 d] 24)
        have BB := BB.alloc (.cells #[.int .i64 n, .int .i64 d] 24)
        have BX := BX.alloc (.cells #[.int .i64 n, .int .i64 d] 24)
        have BW := BW.alloc (.cells #[.int .i64 n, .int .i64 d] 24)
        have BY := Blk.at_ w4 24 #[.int .i64 n, .int .i64 d] w4.heap.size rfl
        first | refine (ext_call (H4.out _)).mono ?_ | refine (to_ex (H4.out _)).mono ?_
        rintro e w' ⟨rfl, xx, rfl⟩
        go_wp2_with fail
        first | refine (ext_call (H5.out _)).mono ?_ | refine (to_ex (H5.out _)).mono ?_
        rintro e w' ⟨rfl, xx, rfl⟩
        go_wp2_with fail
        go_ret
        exact ⟨rfl, (by repeat (first | with_reducible assumption | with_reducible exact gr_refl _ _ | with_reducible refine kp_alloc ?_ _ | ((with_reducible refine kp_set ?_ ?_ _); rotate_left; focus (dsimp only; omega)) | with_reducible refine kp_ex ?_ _ | with_reducible refine kp_drewN ?_ _ | with_reducible refine kp_drew ?_ | with_reducible refine kp_exr ?_ _ | with_reducible refine kp_exr' ?_ _))⟩
      · have e : cmpI b0 0 = 1 := by unfold cmpI; split <;> (try split) <;> omega
        rw [e] at H4
        have g1 : ¬ b0 < 0 := by omega
        clear e
        go_wp2_with fail
        have BA := (Blk.at_ w1 24 #[.int .i64 a0, .int .i64 a1] w1.heap.size rfl).alloc (.cells #[.int .i64 b0, .int .i64 b1] 24)
        have BB : Blk ((w1.alloc (.cells #[.int .i64 a0, .int .i64 a1] 24)).alloc (.cells #[.int .i64 b0, .int .i64 b1] 24)) (w1.heap.size + 1) 24 #[.int .i64 b0, .int .i64 b1] := Blk.at_ _ _ _ _ (by simp)
        refine (H1.out _).mono ?_
        rintro e w2 ⟨rfl, hg⟩
        have K : w.grownBy w2 none := kp_trans (by repeat (first | with_reducible assumption | with_reducible exact gr_refl _ _ | with_reducible refine kp_alloc ?_ _ | ((with_reducible refine kp_set ?_ ?_ _); rotate_left; focus (dsimp only; omega)) | with_reducible refine kp_ex ?_ _ | with_reducible refine kp_drewN ?_ _ | with_reducible refine kp_drew ?_ | with_reducible refine kp_exr ?_ _ | with_reducible refine kp_exr' ?_ _)) hg
        have BA := BA.kp hg
        have BB := BB.kp hg
        have hzw2 := hg.size
        try simp only [World.size_alloc] at hzw2
        clear hg
        obtain ⟨cBA0, cBA1, _, _, _⟩ := two_cells BA
        obtain ⟨cBB0, cBB1, _, _, _⟩ := two_cells BB
        go_wp2_with fail
        have BA := BA.alloc (.cells #[.int .i64 n, .int .i64 d] 24)
        have BB := BB.alloc (.cells #[.int .i64 n, .int .i64 d] 24)
        have BX := Blk.at_ w2 24 #[.int .i64 n, .int .i64 d] w2.heap.size rfl
        refine (H2.out _).mono ?_
        rintro e w3 ⟨rfl, hg⟩
        have K : w.grownBy w3 none := kp_trans (by repeat (first | with_reducible assumption | with_reducible exact gr_refl _ _ | with_reducible refine kp_alloc ?_ _ | ((with_reducible refine kp_set ?_ ?_ _); rotate_left; focus (dsimp only; omega)) | with_reducible refine kp_ex ?_ _ | with_reducible refine kp_drewN ?_ _ | with_reducible refine kp_drew ?_ | with_reducible refine kp_exr ?_ _ | with_reducible refine kp_exr' ?_ _)) hg
        have BA := BA.kp hg
        have BB := BB.kp hg
        have BX := BX.kp hg
        have hzw3 := hg.size
        try simp only [World.size_alloc] at hzw3
        clear hg
        obtain ⟨cBA0, cBA1, _, _, _⟩ := two_cells BA
        obtain ⟨cBB0, cBB1, _, _, _⟩ := two_cells BB
        obtain ⟨cBX0, cBX1, _, _, _⟩ := two_cells BX
        go_wp2_with fail
        have BA := BA.alloc (.cells #[.int .i64 n, .int .i64 d] 24)
        have BB := BB.alloc (.cells #[.int .i64 n, .int .i64 d] 24)
        have BX := BX.alloc (.cells #[.int .i64 n, .int .i64 d] 24)
        have BW := Blk.at_ w3 24 #[.int .i64 n, .int .i64 d] w3.heap.size rfl
        refine (H3.out _).mono ?_
        rintro e w4 ⟨rfl, hg⟩
        have K : w.grownBy w4 none := kp_trans (by repeat (first | with_reducible assumption | with_reducible exact gr_refl _ _ | with_reducible refine kp_alloc ?_ _ | ((with_reducible refine kp_set ?_ ?_ _); rotate_left; focus (dsimp only; omega)) | with_reducible refine kp_ex ?_ _ | with_reducible refine kp_drewN ?_ _ | with_reducible refine kp_drew ?_ | with_reducible refine kp_exr ?_ _ | with_reducible refine kp_exr' ?_ _)) hg
        have BA := BA.kp hg
        have BB := BB.kp hg
        have BX := BX.kp hg
        have BW := BW.kp hg
        have hzw4 := hg.size
        try simp only [World.size_alloc] at hzw4
        clear hg
        obtain ⟨cBA0, cBA1, _, _, _⟩ := two_cells BA
        obtain ⟨cBB0, cBB1, _, _, _⟩ := two_cells BB
        obtain ⟨cBX0, cBX1, _, _, _⟩ := two_cells BX
        obtain ⟨cBW0, cBW1, _, _, _⟩ := two_cells BW
        go_wp2_with fail
        have BA := BA.alloc (.cells #[.int .i64 n, .int .i64 d] 24)
        have BB := BB.alloc (.cells #[.int .i64 n, .int .i64 d] 24)
        have BX := BX.alloc (.cells #[.int .i64 n, .int .i64 d] 24)
        have BW := BW.alloc (.cells #[.int .i64 n, .int .i64 d] 24)
        have BY := Blk.at_ w4 24 #[.int .i64 n, .int .i64 d] w4.heap.size rfl
        first | refine (ext_call (H4.out _)).mono ?_ | refine (to_ex (H4.out _)).mono ?_
        rintro e w' ⟨rfl, xx, rfl⟩
        go_wp2_with fail
        first | refine (ext_call (H5.out _)).mono ?_ | refine (to_ex (H5.out _)).mono ?_
        rintro e w' ⟨rfl, xx, rfl⟩
        go_wp2_with fail
        go_ret
        exact ⟨by first | rfl | (simp only [decide_eq_false (show ¬ b0 < 0 by omega)]; rfl), (by repeat (first | with_reducible assumption | with_reducible exact gr_refl _ _ | with_reducible refine kp_alloc ?_ _ | ((with_reducible refine kp_set ?_ ?_ _); rotate_left; focus (dsimp only; omega)) | with_reducible refine kp_ex ?_ _ | with_reducible refine kp_drewN ?_ _ | with_reducible refine kp_drew ?_ | with_reducible refine kp_exr ?_ _ | with_reducible refine kp_exr' ?_ _))⟩
    · have ho : addOK a0 a1 b0 b1 = false := Bool.eq_false_iff.2 ho
      rw [ho] at H1 H2 H3
      generalize addN a0 a1 b0 b1 = n at *
      generalize addD a0 a1 b0 b1 = d at *
      have hself := eqP_self n d
      clear ho hc
      go_wp2_with fail
      have BA := (Blk.at_ w1 24 #[.int .i64 a0, .int .i64 a1] w1.heap.size rfl).alloc (.cells #[.int .i64 b0, .int .i64 b1] 24)
      have BB : Blk ((w1.alloc (.cells #[.int .i64 a0, .int .i64 a1] 24)).alloc (.cells #[.int .i64 b0, .int .i64 b1] 24)) (w1.heap.size + 1) 24 #[.int .i64 b0, .int .i64 b1] := Blk.at_ _ _ _ _ (by simp)
      refine (H1.out _).mono ?_
      rintro e w2 ⟨rfl, hg⟩
      have K : w.grownBy w2 none := kp_trans (by repeat (first | with_reducible assumption | with_reducible exact gr_refl _ _ | with_reducible refine kp_alloc ?_ _ | ((with_reducible refine kp_set ?_ ?_ _); rotate_left; focus (dsimp only; omega)) | with_reducible refine kp_ex ?_ _ | with_reducible refine kp_drewN ?_ _ | with_reducible refine kp_drew ?_ | with_reducible refine kp_exr ?_ _ | with_reducible refine kp_exr' ?_ _)) hg
      have BA := BA.kp hg
      have BB := BB.kp hg
      have hzw2 := hg.size
      try simp only [World.size_alloc] at hzw2
      clear hg
      obtain ⟨cBA0, cBA1, _, _, _⟩ := two_cells BA
      obtain ⟨cBB0, cBB1, _, _, _⟩ := two_cells BB
      go_wp2_with fail
      have BA := BA.alloc (.cells #[.int .i64 n, .int .i64 d] 24)
      have BB := BB.alloc (.cells #[.int .i64 n, .int .i64 d] 24)
      have BX := Blk.at_ w2 24 #[.int .i64 n, .int .i64 d] w2.heap.size rfl
      refine (H2.out _).mono ?_
      rintro e w3 ⟨rfl, hg⟩
      have K : w.grownBy w3 none := kp_trans (by repeat (first | with_reducible assumption | with_reducible exact gr_refl _ _ | with_reducible refine kp_alloc ?_ _ | ((with_reducible refine kp_set ?_ ?_ _); rotate_left; focus (dsimp only; omega)) | with_reducible refine kp_ex ?_ _ | with_reducible refine kp_drewN ?_ _ | with_reducible refine kp_drew ?_ | with_reducible refine kp_exr ?_ _ | with_reducible refine kp_exr' ?_ _)) hg
      have BA := BA.kp hg
      have BB := BB.kp hg
      have BX := BX.kp hg
      have hzw3 := hg.size
      try simp only [World.size_alloc] at hzw3
      clear hg
      obtain ⟨cBA0, cBA1, _, _, _⟩ := two_cells BA
      obtain ⟨cBB0, cBB1, _, _, _⟩ := two_cells BB
      obtain ⟨cBX0, cBX1, _, _, _⟩ := two_cells BX
      go_wp2_with fail
      have BA := BA.alloc (.cells #[.int .i64 n, .int .i64 d] 24)
      have BB := BB.alloc (.cells #[.int .i64 n, .int .i64 d] 24)
      have BX := BX.alloc (.cells #[.int .i64 n, .int .i64 d] 24)
      have BW := Blk.at_ w3 24 #[.int .i64 n, .int .i64 d] w3.heap.size rfl
      refine (H3.out _).mono ?_
      rintro e w4 ⟨rfl, hg⟩
      have K : w.grownBy w4 none := kp_trans (by repeat (first | with_reducible assumption | with_reducible exact gr_refl _ _ | with_reducible refine kp_alloc ?_ _ | ((with_reducible refine kp_set ?_ ?_ _); rotate_left; focus (dsimp only; omega)) | with_reducible refine kp_ex ?_ _ | with_reducible refine kp_drewN ?_ _ | with_reducible refine kp_drew ?_ | with_reducible refine kp_exr ?_ _ | with_reducible refine kp_exr' ?_ _)) hg
      have BA := BA.kp hg
      have BB := BB.kp hg
      have BX := BX.kp hg
      have BW := BW.kp hg
      have hzw4 := hg.size
      try simp only [World.size_alloc] at hzw4
      clear hg
      obtain ⟨cBA0, cBA1, _, _, _⟩ := two_cells BA
      obtain ⟨cBB0, cBB1, _, _, _⟩ := two_cells BB
      obtain ⟨cBX0, cBX1, _, _, _⟩ := two_cells BX
      obtain ⟨cBW0, cBW1, _, _, _⟩ := two_cells BW
      go_wp2_with fail
      have BA := BA.alloc (.cells #[.int .i64 n, .int .i64 d] 24)
      have BB := BB.alloc (.cells #[.int .i64 n, .int .i64 d] 24)
      have BX := BX.alloc (.cells #[.int .i64 n, .int .i64 d] 24)
      have BW := BW.alloc (.cells #[.int .i64 n, .int .i64 d] 24)
      have BY := Blk.at_ w4 24 #[.int .i64 n, .int .i64 d] w4.heap.size rfl
      go_ret
      exact ⟨rfl, (by repeat (first | with_reducible assumption | with_reducible exact gr_refl _ _ | with_reducible refine kp_alloc ?_ _ | ((with_reducible refine kp_set ?_ ?_ _); rotate_left; focus (dsimp only; omega)) | with_reducible refine kp_ex ?_ _ | with_reducible refine kp_drewN ?_ _ | with_reducible refine kp_drew ?_ | with_reducible refine kp_exr ?_ _ | with_reducible refine kp_exr' ?_ _))⟩
  · have hm' : (1048576 : Int) < (m : Int) := by omega
    go_enter Try.func13, Try.ntmps13
    go_wp2_with fail
    go_ret
    exact ⟨rfl, gr_refl w none⟩
end Go.Proofs.Ytndkhbilefljnaa.FnAddRats
