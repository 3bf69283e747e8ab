/- Fractions: products. -/
import Derived.Test.YtndkhbilefljnaaRt3
namespace Go.Proofs.Ytndkhbilefljnaa
open Go.RowKit
set_option linter.unusedSimpArgs false
set_option linter.unusedVariables false

set_option maxHeartbeats 4000000 in
theorem sMulRats_any (a0 a1 b0 b1 : Int) (w : World) : Calls Try.prog 17 #[.agg #[.int .i64 a0, .int .i64 a1], .agg #[.int .i64 b0, .int .i64 b1]] w fun e w' => e = .returned (.tuple #[.agg #[.int .i64 (mulN a0 a1 b0 b1), .int .i64 (mulD a0 a1 b0 b1)], .bool (mulOK a0 a1 b0 b1)]) ∧ w.grownBy w' none := by
  unfold mulN mulD
  generalize hok : mulOK a0 a1 b0 b1 = ok
  unfold mulOK at hok
  by_cases h1 : okR a0 a1 = true
  · by_cases h2 : okR b0 b1 = true
    · rw [h1, h2, Bool.true_and, Bool.true_and] at hok
      obtain ⟨⟨p1, p2⟩, ⟨p3, p4⟩, _⟩ := okR_bd h1
      obtain ⟨⟨p5, p6⟩, ⟨p7, p8⟩, _⟩ := okR_bd h2
      obtain ⟨x2, x3⟩ := redN_bd a0 b1 100000000000 p7 p1 p2
      obtain ⟨y2, y3⟩ := redN_bd b0 a1 100000000000 p3 p5 p6
      obtain ⟨x4, x5⟩ := redD_bd a0 b1 20000000 p7 p8
      obtain ⟨y4, y5⟩ := redD_bd b0 a1 20000000 p3 p4
      have HR1 := hide fun W => ratio_any a0 b1 W (by omega) (by omega) (by omega) (by omega) (by omega)
      have HR2 := hide fun W => ratio_any b0 a1 W (by omega) (by omega) (by omega) (by omega) (by omega)
      have H1 := hide fun W => srvalid_t h1 W
      have H2 := hide fun W => srvalid_t h2 W
      generalize redN a0 b1 = x0 at *
      generalize redN b0 a1 = y0 at *
      generalize redD a0 b1 = x1 at *
      generalize redD b0 a1 = y1 at *
      obtain ⟨mb1a, mb1b⟩ := mul_bd (x1) (y1) (20000000) (20000000) (by omega) (by omega) (by omega) (by omega)
      clear h1 h2
      by_cases hx0 : x0 = 0
      · subst hx0
        have hb : mulBad 0 y0 = false := by simp [mulBad]
        rw [hb] at hok
        simp only [Bool.not_false, Bool.true_and, Int.zero_mul] at hok
        have HM := hide fun W => checked_any 0 (x1 * y1) W
        rw [hok] at HM
        clear hok
        go_enter Try.func17, Try.ntmps17
        go_wp2_with fail
        first | refine (ext_call (H1.out _)).mono ?_ | refine (to_ex (H1.out _)).mono ?_
        rintro e w' ⟨rfl, xx, rfl⟩
        go_wp2_with fail
        first | refine (ext_call (H2.out _)).mono ?_ | refine (to_ex (H2.out _)).mono ?_
        rintro e w' ⟨rfl, xx, rfl⟩
        go_wp2_with fail
        have BA : Blk _ w.heap.size 24 #[.int .i64 a0, .int .i64 a1] := (((Blk.at_ w _ _ _ rfl).alloc _).alloc _).kp (exN_kp xx)
        have BB : Blk _ (w.heap.size + 1) 24 #[.int .i64 b0, .int .i64 b1] := ((Blk.at_ _ _ _ _ (by simp)).alloc _).kp (exN_kp xx)
        have BR : Blk _ (w.heap.size + 1 + 1) 24 #[.int .i64 0, .int .i64 0] := (Blk.at_ _ _ _ _ (by simp)).kp (exN_kp xx)
        refine (HR1.out _).mono ?_
        rintro e w1 ⟨rfl, hk1⟩
        have K1 : w.grownBy w1 none := kp_trans (by repeat (first | with_reducible assumption | with_reducible exact gr_refl _ _ | with_reducible refine kp_alloc ?_ _ | ((with_reducible refine kp_set ?_ ?_ _); rotate_left; focus (dsimp only; omega)) | with_reducible refine kp_ex ?_ _ | with_reducible refine kp_drewN ?_ _ | with_reducible refine kp_drew ?_ | with_reducible refine kp_exr ?_ _ | with_reducible refine kp_exr' ?_ _)) hk1
        have BA := BA.kp hk1
        have BB := BB.kp hk1
        have BR := BR.kp hk1
        clear hk1
        obtain ⟨c0, c1, _, _, c2⟩ := two_cells BA
        obtain ⟨c3, c4, _, _, c5⟩ := two_cells BB
        go_wp2_with fail
        refine (HR2.out _).mono ?_
        rintro e w2 ⟨rfl, hk2⟩
        have K2 : w.grownBy w2 none := kp_trans (kp_alloc K1 _) hk2
        have BX : Blk w2 w1.heap.size 24 _ := (Blk.new w1 _ _).kp hk2
        have BR := (BR.alloc _).kp hk2
        clear hk2 c0 c1 c2 c3 c4 c5
        obtain ⟨d0, d1, _, _, d2⟩ := two_cells BX
        obtain ⟨e0, e1, e2, e3, _⟩ := two_cells BR
        have z1 : w.heap.size + 1 + 1 < w2.heap.size := BR.lt
        have z2 : w.heap.size + 1 + 1 ≤ w2.heap.size := Nat.le_of_lt z1
        have z3 : w.heap.size + 1 + 1 < w2.heap.size + 1 := Nat.lt_succ_of_lt z1
        go_wp2_with fail
        refine wp_region_ext none (by kernel_rfl) (by kernel_rfl) ?_
        repeat (go_big_quiet_step (first | fail))
        refine wpQuiet_nil ?_
        rintro _ ⟨x, rfl⟩
        go_wp2_with fail
        first | refine (ext_call (HM.out _)).mono ?_ | refine (to_ex (HM.out _)).mono ?_
        rintro e w' ⟨rfl, xx, rfl⟩
        go_wp2_with fail
        refine bodyPost_ret (v := .tuple #[.agg #[.int .i64 (orZ ok 0), .int .i64 (orZ ok (x1 * y1))], .bool ok]) (by simp [results, Try.results17, go_sem, z1, z2, z3, e0, e1]) rfl ?_
        exact ⟨by simp, (by repeat (first | with_reducible assumption | with_reducible exact gr_refl _ _ | with_reducible refine kp_alloc ?_ _ | ((with_reducible refine kp_set ?_ ?_ _); rotate_left; focus (dsimp only; omega)) | with_reducible refine kp_ex ?_ _ | with_reducible refine kp_drewN ?_ _ | with_reducible refine kp_drew ?_ | with_reducible refine kp_exr ?_ _ | with_reducible refine kp_exr' ?_ _))⟩
      · have hx0' : (x0 == 0) = false := by simp [hx0]
        have hx0'' : (x0 != 0) = true := by simp [hx0]
        have hq1 : 0 ≤ 100000000000 / (x0.natAbs : Int) := Int.ediv_nonneg (by omega) (by omega)
        have hq2 : 100000000000 / (x0.natAbs : Int) ≤ 100000000000 := Int.ediv_le_self _ (by omega)
        have hq0 : ((x0.natAbs : Int) == 0) = false := by simp; omega
        have hq3 : IntKind.i64.wrap ((100000000000 : Int).tdiv (x0.natAbs : Int)) = 100000000000 / (x0.natAbs : Int) := by rw [Int.tdiv_eq_ediv_of_nonneg (by omega)]; exact IntWalk.i64_in _ (by omega)
        have hq4 : (1 : Int) ≤ (x0.natAbs : Int) := by omega
        have HX := hide fun W => sabs_any x0 W (by omega) (by omega)
        have HY := hide fun W => sabs_any y0 W (by omega) (by omega)
        by_cases hb : mulBad x0 y0 = true
        · rw [hb] at hok
          simp only [Bool.not_true, Bool.false_and, Bool.and_false] at hok
          have hlt : 100000000000 / (x0.natAbs : Int) < (y0.natAbs : Int) := by
            unfold mulBad at hb
            simpa [hx0] using hb
          subst hok
          clear hb hx0
          go_enter Try.func17, Try.ntmps17
          go_wp2_with fail
          first | refine (ext_call (H1.out _)).mono ?_ | refine (to_ex (H1.out _)).mono ?_
          rintro e w' ⟨rfl, xx, rfl⟩
          go_wp2_with fail
          first | refine (ext_call (H2.out _)).mono ?_ | refine (to_ex (H2.out _)).mono ?_
          rintro e w' ⟨rfl, xx, rfl⟩
          go_wp2_with fail
          have BA : Blk _ w.heap.size 24 #[.int .i64 a0, .int .i64 a1] := (((Blk.at_ w _ _ _ rfl).alloc _).alloc _).kp (exN_kp xx)
          have BB : Blk _ (w.heap.size + 1) 24 #[.int .i64 b0, .int .i64 b1] := ((Blk.at_ _ _ _ _ (by simp)).alloc _).kp (exN_kp xx)
          have BR : Blk _ (w.heap.size + 1 + 1) 24 #[.int .i64 0, .int .i64 0] := (Blk.at_ _ _ _ _ (by simp)).kp (exN_kp xx)
          refine (HR1.out _).mono ?_
          rintro e w1 ⟨rfl, hk1⟩
          have K1 : w.grownBy w1 none := kp_trans (by repeat (first | with_reducible assumption | with_reducible exact gr_refl _ _ | with_reducible refine kp_alloc ?_ _ | ((with_reducible refine kp_set ?_ ?_ _); rotate_left; focus (dsimp only; omega)) | with_reducible refine kp_ex ?_ _ | with_reducible refine kp_drewN ?_ _ | with_reducible refine kp_drew ?_ | with_reducible refine kp_exr ?_ _ | with_reducible refine kp_exr' ?_ _)) hk1
          have BA := BA.kp hk1
          have BB := BB.kp hk1
          have BR := BR.kp hk1
          clear hk1
          obtain ⟨c0, c1, _, _, c2⟩ := two_cells BA
          obtain ⟨c3, c4, _, _, c5⟩ := two_cells BB
          go_wp2_with fail
          refine (HR2.out _).mono ?_
          rintro e w2 ⟨rfl, hk2⟩
          have K2 : w.grownBy w2 none := kp_trans (kp_alloc K1 _) hk2
          have BX : Blk w2 w1.heap.size 24 _ := (Blk.new w1 _ _).kp hk2
          have BR := (BR.alloc _).kp hk2
          clear hk2 c0 c1 c2 c3 c4 c5
          obtain ⟨d0, d1, _, _, d2⟩ := two_cells BX
          obtain ⟨e0, e1, e2, e3, _⟩ := two_cells BR
          have z1 : w.heap.size + 1 + 1 < w2.heap.size := BR.lt
          have z2 : w.heap.size + 1 + 1 ≤ w2.heap.size := Nat.le_of_lt z1
          have z3 : w.heap.size + 1 + 1 < w2.heap.size + 1 := Nat.lt_succ_of_lt z1
          go_wp2_with fail
          generalize (x0.natAbs : Int) = xa at *
          generalize (y0.natAbs : Int) = ya at *
          generalize hqq : (100000000000 : Int) / xa = qa at *
          have HQQ := hide hqq
          clear hqq
          refine wp_region_ext none (by kernel_rfl) (by kernel_rfl) ?_
          repeat (go_big_quiet_step (first | (go_at_call 75; first | (with_reducible exact ext_call (HX.out _)) | (with_reducible exact ext_call (HY.out _)))))
          refine wpQuiet_nil ?_
          rintro _ ⟨x, rfl⟩
          go_wp2_with fail
          refine bodyPost_ret (v := .tuple #[.agg #[.int .i64 0, .int .i64 0], .bool false]) (by simp [results, Try.results17, go_sem, z1, z2, z3, e0, e1]) rfl ?_
          exact ⟨by simp [orZ], (by repeat (first | with_reducible assumption | with_reducible exact gr_refl _ _ | with_reducible refine kp_alloc ?_ _ | ((with_reducible refine kp_set ?_ ?_ _); rotate_left; focus (dsimp only; omega)) | with_reducible refine kp_ex ?_ _ | with_reducible refine kp_drewN ?_ _ | with_reducible refine kp_drew ?_ | with_reducible refine kp_exr ?_ _ | with_reducible refine kp_exr' ?_ _))⟩
        · have hbf := Bool.eq_false_iff.2 hb
          have hnb := not_bad x0 y0 hbf (by omega)
          rw [hbf] at hok
          simp only [Bool.not_false, Bool.true_and] at hok
          have HM := hide fun W => checked_any (x0 * y0) (x1 * y1) W
          rw [hok] at HM
          have hlt : ¬ 100000000000 / (x0.natAbs : Int) < (y0.natAbs : Int) := by
            unfold mulBad at hbf
            simpa [hx0] using hbf
          obtain ⟨hn1, hn2⟩ := hnb
          clear hb hbf hx0 hok
          go_enter Try.func17, Try.ntmps17
          go_wp2_with fail
          first | refine (ext_call (H1.out _)).mono ?_ | refine (to_ex (H1.out _)).mono ?_
          rintro e w' ⟨rfl, xx, rfl⟩
          go_wp2_with fail
          first | refine (ext_call (H2.out _)).mono ?_ | refine (to_ex (H2.out _)).mono ?_
          rintro e w' ⟨rfl, xx, rfl⟩
          go_wp2_with fail
          have BA : Blk _ w.heap.size 24 #[.int .i64 a0, .int .i64 a1] := (((Blk.at_ w _ _ _ rfl).alloc _).alloc _).kp (exN_kp xx)
          have BB : Blk _ (w.heap.size + 1) 24 #[.int .i64 b0, .int .i64 b1] := ((Blk.at_ _ _ _ _ (by simp)).alloc _).kp (exN_kp xx)
          have BR : Blk _ (w.heap.size + 1 + 1) 24 #[.int .i64 0, .int .i64 0] := (Blk.at_ _ _ _ _ (by simp)).kp (exN_kp xx)
          refine (HR1.out _).mono ?_
          rintro e w1 ⟨rfl, hk1⟩
          have K1 : w.grownBy w1 none := kp_trans (by repeat (first | with_reducible assumption | with_reducible exact gr_refl _ _ | with_reducible refine kp_alloc ?_ _ | ((with_reducible refine kp_set ?_ ?_ _); rotate_left; focus (dsimp only; omega)) | with_reducible refine kp_ex ?_ _ | with_reducible refine kp_drewN ?_ _ | with_reducible refine kp_drew ?_ | with_reducible refine kp_exr ?_ _ | with_reducible refine kp_exr' ?_ _)) hk1
          have BA := BA.kp hk1
          have BB := BB.kp hk1
          have BR := BR.kp hk1
          clear hk1
          obtain ⟨c0, c1, _, _, c2⟩ := two_cells BA
          obtain ⟨c3, c4, _, _, c5⟩ := two_cells BB
          go_wp2_with fail
          refine (HR2.out _).mono ?_
          rintro e w2 ⟨rfl, hk2⟩
          have K2 : w.grownBy w2 none := kp_trans (kp_alloc K1 _) hk2
          have BX : Blk w2 w1.heap.size 24 _ := (Blk.new w1 _ _).kp hk2
          have BR := (BR.alloc _).kp hk2
          clear hk2 c0 c1 c2 c3 c4 c5
          obtain ⟨d0, d1, _, _, d2⟩ := two_cells BX
          obtain ⟨e0, e1, e2, e3, _⟩ := two_cells BR
          have z1 : w.heap.size + 1 + 1 < w2.heap.size := BR.lt
          have z2 : w.heap.size + 1 + 1 ≤ w2.heap.size := Nat.le_of_lt z1
          have z3 : w.heap.size + 1 + 1 < w2.heap.size + 1 := Nat.lt_succ_of_lt z1
          go_wp2_with fail
          generalize (x0.natAbs : Int) = xa at *
          generalize (y0.natAbs : Int) = ya at *
          generalize hqq : (100000000000 : Int) / xa = qa at *
          have HQQ := hide hqq
          clear hqq
          refine wp_region_ext none (by kernel_rfl) (by kernel_rfl) ?_
          repeat (go_big_quiet_step (first | (go_at_call 75; first | (with_reducible exact ext_call (HX.out _)) | (with_reducible exact ext_call (HY.out _)))))
          refine wpQuiet_nil ?_
          rintro _ ⟨x, rfl⟩
          go_wp2_with fail
          first | refine (ext_call (HM.out _)).mono ?_ | refine (to_ex (HM.out _)).mono ?_
          rintro e w' ⟨rfl, xx, rfl⟩
          go_wp2_with fail
          refine bodyPost_ret (v := .tuple #[.agg #[.int .i64 (orZ ok (x0 * y0)), .int .i64 (orZ ok (x1 * y1))], .bool ok]) (by simp [results, Try.results17, go_sem, z1, z2, z3, e0, e1]) rfl ?_
          exact ⟨by simp, (by repeat (first | with_reducible assumption | with_reducible exact gr_refl _ _ | with_reducible refine kp_alloc ?_ _ | ((with_reducible refine kp_set ?_ ?_ _); rotate_left; focus (dsimp only; omega)) | with_reducible refine kp_ex ?_ _ | with_reducible refine kp_drewN ?_ _ | with_reducible refine kp_drew ?_ | with_reducible refine kp_exr ?_ _ | with_reducible refine kp_exr' ?_ _))⟩
    · rw [h1, Bool.eq_false_iff.2 h2] at hok
      simp at hok
      have H1 := hide fun W => srvalid_t h1 W
      have H2 := hide fun W => srvalid_f h2 W
      subst hok
      clear h1 h2
      go_enter Try.func17, Try.ntmps17
      go_wp2_with fail
      first | refine (ext_call (H1.out _)).mono ?_ | refine (to_ex (H1.out _)).mono ?_
      rintro e w' ⟨rfl, xx, rfl⟩
      go_wp2_with fail
      first | refine (ext_call (H2.out _)).mono ?_ | refine (to_ex (H2.out _)).mono ?_
      rintro e w' ⟨rfl, xx, rfl⟩
      go_wp2_with fail
      refine bodyPost_ret (v := .tuple #[.agg #[.int .i64 0, .int .i64 0], .bool false]) (by simp [results, Try.results17, go_sem]) rfl ?_
      exact ⟨by simp [orZ], (by repeat (first | with_reducible assumption | with_reducible exact gr_refl _ _ | with_reducible refine kp_alloc ?_ _ | ((with_reducible refine kp_set ?_ ?_ _); rotate_left; focus (dsimp only; omega)) | with_reducible refine kp_ex ?_ _ | with_reducible refine kp_drewN ?_ _ | with_reducible refine kp_drew ?_ | with_reducible refine kp_exr ?_ _ | with_reducible refine kp_exr' ?_ _))⟩
  · rw [Bool.eq_false_iff.2 h1] at hok
    simp at hok
    have H1 := hide fun W => srvalid_f h1 W
    subst hok
    clear h1
    go_enter Try.func17, Try.ntmps17
    go_wp2_with fail
    first | refine (ext_call (H1.out _)).mono ?_ | refine (to_ex (H1.out _)).mono ?_
    rintro e w' ⟨rfl, xx, rfl⟩
    go_wp2_with fail
    refine bodyPost_ret (v := .tuple #[.agg #[.int .i64 0, .int .i64 0], .bool false]) (by simp [results, Try.results17, go_sem]) rfl ?_
    exact ⟨by simp [orZ], (by repeat (first | with_reducible assumption | with_reducible exact gr_refl _ _ | with_reducible refine kp_alloc ?_ _ | ((with_reducible refine kp_set ?_ ?_ _); rotate_left; focus (dsimp only; omega)) | with_reducible refine kp_ex ?_ _ | with_reducible refine kp_drewN ?_ _ | with_reducible refine kp_drew ?_ | with_reducible refine kp_exr ?_ _ | with_reducible refine kp_exr' ?_ _))⟩

set_option maxHeartbeats 4000000 in
theorem iMulRats_any (a0 a1 b0 b1 : Int) (w : World) : Calls Try.prog 16 #[.agg #[.int .i64 a0, .int .i64 a1], .agg #[.int .i64 b0, .int .i64 b1]] w fun e w' => e = .returned (.tuple #[.agg #[.int .i64 (mulN a0 a1 b0 b1), .int .i64 (mulD a0 a1 b0 b1)], .bool (mulOK a0 a1 b0 b1)]) ∧ w.grownBy w' none := by
  unfold mulN mulD
  generalize hok : mulOK a0 a1 b0 b1 = ok
  unfold mulOK at hok
  by_cases h1 : okR a0 a1 = true
  · by_cases h2 : okR b0 b1 = true
    · rw [h1, h2, Bool.true_and, Bool.true_and] at hok
      obtain ⟨⟨p1, p2⟩, ⟨p3, p4⟩, _⟩ := okR_bd h1
      obtain ⟨⟨p5, p6⟩, ⟨p7, p8⟩, _⟩ := okR_bd h2
      obtain ⟨x2, x3⟩ := redN_bd a0 b1 100000000000 p7 p1 p2
      obtain ⟨y2, y3⟩ := redN_bd b0 a1 100000000000 p3 p5 p6
      obtain ⟨x4, x5⟩ := redD_bd a0 b1 20000000 p7 p8
      obtain ⟨y4, y5⟩ := redD_bd b0 a1 20000000 p3 p4
      have HR1 := hide fun W => reduced_any a0 b1 W (by omega) (by omega) (by omega) (by omega) (by omega)
      have HR2 := hide fun W => reduced_any b0 a1 W (by omega) (by omega) (by omega) (by omega) (by omega)
      have H1 := hide fun W => irvalid_t h1 W
      have H2 := hide fun W => irvalid_t h2 W
      generalize redN a0 b1 = x0 at *
      generalize redN b0 a1 = y0 at *
      generalize redD a0 b1 = x1 at *
      generalize redD b0 a1 = y1 at *
      obtain ⟨mb2a, mb2b⟩ := mul_bd (x1) (y1) (20000000) (20000000) (by omega) (by omega) (by omega) (by omega)
      clear h1 h2
      by_cases hx0 : x0 = 0
      · subst hx0
        have hb : mulBad 0 y0 = false := by simp [mulBad]
        rw [hb] at hok
        simp only [Bool.not_false, Bool.true_and, Int.zero_mul] at hok
        have HM := hide fun W => made_any 0 (x1 * y1) W
        rw [hok] at HM
        clear hok
        go_enter Try.func16, Try.ntmps16
        go_wp2_with fail
        first | refine (ext_call (H1.out _)).mono ?_ | refine (to_ex (H1.out _)).mono ?_
        rintro e w' ⟨rfl, xx, rfl⟩
        go_wp2_with fail
        first | refine (ext_call (H2.out _)).mono ?_ | refine (to_ex (H2.out _)).mono ?_
        rintro e w' ⟨rfl, xx, rfl⟩
        go_wp2_with fail
        have BR : Blk _ (w.heap.size + 1 + 1) 24 #[.int .i64 0, .int .i64 0] := (Blk.at_ _ _ _ _ (by simp)).kp (exN_kp xx)
        refine wp_region_new2 10 (t0 := 24) (t1 := 24) (z0 := #[.int .i64 0, .int .i64 0]) (z1 := #[.int .i64 0, .int .i64 0]) (by kernel_rfl) (by kernel_rfl) rfl rfl (fun _ _ => by go_simp) rfl rfl (fun _ _ => by go_simp) (by simp) ?_
        simp only [List.take_succ_cons, List.take_zero, List.drop_succ_cons, List.drop_zero]
        repeat (refine wpE_step (fun K hK => ?_); go_simp; first | (refine hK _ ?_; clear hK K) | (apply Exists.intro; refine ⟨fun _ => ?_, hK _ ?_⟩; (go_at_call 70; first | (with_reducible exact HR1.out _) | (with_reducible exact HR2.out _)); clear hK K))
        refine wpE_nil ?_
        intro g0 g1 w2 hk l0 h0 l1 h1 n01
        simp only [Act.put, List.setIfInBounds_toArray, List.set_cons_zero, List.set_cons_succ]
        have l0' := Nat.le_trans (exN_kp xx).size l0
        have l1' := Nat.le_trans (exN_kp xx).size l1
        simp only [World.size_alloc] at l0' l1'
        have BR := BR.kp hk
        have K2 : w.grownBy w2 none := kp_trans (by repeat (first | with_reducible assumption | with_reducible exact gr_refl _ _ | with_reducible refine kp_alloc ?_ _ | ((with_reducible refine kp_set ?_ ?_ _); rotate_left; focus (dsimp only; omega)) | with_reducible refine kp_ex ?_ _ | with_reducible refine kp_drewN ?_ _ | with_reducible refine kp_drew ?_ | with_reducible refine kp_exr ?_ _ | with_reducible refine kp_exr' ?_ _)) hk
        clear hk l0 l1
        obtain ⟨r0, r1, r2, r3, r4⟩ := two_cells h0
        obtain ⟨s0, s1, s2, s3, s4⟩ := two_cells h1
        have n10 := n01.symm
        go_wp2_with fail
        refine gen_wp (fun w' => w.grownBy w' none ∧ Blk w' (w.heap.size + 1 + 1) 24 #[.int .i64 0, .int .i64 0] ∧ Blk w' g0 24 #[.int .i64 0, .int .i64 x1] ∧ Blk w' g1 24 #[.int .i64 y0, .int .i64 y1]) ⟨(by repeat (first | with_reducible assumption | with_reducible exact gr_refl _ _ | with_reducible refine kp_alloc ?_ _ | ((with_reducible refine kp_set ?_ ?_ _); rotate_left; focus (dsimp only; omega)) | with_reducible refine kp_ex ?_ _ | with_reducible refine kp_drewN ?_ _ | with_reducible refine kp_drew ?_ | with_reducible refine kp_exr ?_ _ | with_reducible refine kp_exr' ?_ _)), (Blk.far (Blk.far (Blk.far (Blk.far BR (by dsimp only; omega) _) (by dsimp only; omega) _) (by dsimp only; omega) _) (by dsimp only; omega) _), (Blk.far (Blk.far (Blk.set1 (Blk.set0 h0 _) _) (by dsimp only; omega) _) (by dsimp only; omega) _), (Blk.set1 (Blk.set0 (Blk.far (Blk.far h1 (by dsimp only; omega) _) (by dsimp only; omega) _) _) _)⟩ ?_
        clear r0 r1 r2 r3 r4 s0 s1 s2 s3 s4 K2 BR h0 h1 w2
        rintro w2 ⟨K2, BR, BX, BY⟩
        obtain ⟨d0, d1, _, _, d2⟩ := two_cells BX
        obtain ⟨d3, d4, _, _, d5⟩ := two_cells BY
        obtain ⟨e0, e1, e2, e3, _⟩ := two_cells BR
        have z1 : w.heap.size + 1 + 1 < w2.heap.size := BR.lt
        have z2 : w.heap.size + 1 + 1 ≤ w2.heap.size := Nat.le_of_lt z1
        have z3 : w.heap.size + 1 + 1 < w2.heap.size + 1 := Nat.lt_succ_of_lt z1
        refine wp_region_ext none (by kernel_rfl) (by kernel_rfl) ?_
        repeat (go_big_quiet_step (first | fail))
        refine wpQuiet_nil ?_
        rintro _ ⟨x, rfl⟩
        go_wp2_with fail
        first | refine (ext_call (HM.out _)).mono ?_ | refine (to_ex (HM.out _)).mono ?_
        rintro e w' ⟨rfl, xx, rfl⟩
        go_wp2_with fail
        refine bodyPost_ret (v := .tuple #[.agg #[.int .i64 (orZ ok 0), .int .i64 (orZ ok (x1 * y1))], .bool ok]) (by simp [results, Try.results16, go_sem, z1, z2, z3, e0, e1]) rfl ?_
        exact ⟨by simp, (by repeat (first | with_reducible assumption | with_reducible exact gr_refl _ _ | with_reducible refine kp_alloc ?_ _ | ((with_reducible refine kp_set ?_ ?_ _); rotate_left; focus (dsimp only; omega)) | with_reducible refine kp_ex ?_ _ | with_reducible refine kp_drewN ?_ _ | with_reducible refine kp_drew ?_ | with_reducible refine kp_exr ?_ _ | with_reducible refine kp_exr' ?_ _))⟩
      · have hx0' : (x0 == 0) = false := by simp [hx0]
        have hx0'' : (x0 != 0) = true := by simp [hx0]
        have hq1 : 0 ≤ 100000000000 / (x0.natAbs : Int) := Int.ediv_nonneg (by omega) (by omega)
        have hq2 : 100000000000 / (x0.natAbs : Int) ≤ 100000000000 := Int.ediv_le_self _ (by omega)
        have hq0 : ((x0.natAbs : Int) == 0) = false := by simp; omega
        have hq3 : IntKind.i64.wrap ((100000000000 : Int).tdiv (x0.natAbs : Int)) = 100000000000 / (x0.natAbs : Int) := by rw [Int.tdiv_eq_ediv_of_nonneg (by omega)]; exact IntWalk.i64_in _ (by omega)
        have hq4 : (1 : Int) ≤ (x0.natAbs : Int) := by omega
        have HX := hide fun W => abs_any x0 W (by omega) (by omega)
        have HY := hide fun W => abs_any y0 W (by omega) (by omega)
        by_cases hb : mulBad x0 y0 = true
        · rw [hb] at hok
          simp only [Bool.not_true, Bool.false_and, Bool.and_false] at hok
          have hlt : 100000000000 / (x0.natAbs : Int) < (y0.natAbs : Int) := by
            unfold mulBad at hb
            simpa [hx0] using hb
          subst hok
          clear hb hx0
          go_enter Try.func16, Try.ntmps16
          go_wp2_with fail
          first | refine (ext_call (H1.out _)).mono ?_ | refine (to_ex (H1.out _)).mono ?_
          rintro e w' ⟨rfl, xx, rfl⟩
          go_wp2_with fail
          first | refine (ext_call (H2.out _)).mono ?_ | refine (to_ex (H2.out _)).mono ?_
          rintro e w' ⟨rfl, xx, rfl⟩
          go_wp2_with fail
          have BR : Blk _ (w.heap.size + 1 + 1) 24 #[.int .i64 0, .int .i64 0] := (Blk.at_ _ _ _ _ (by simp)).kp (exN_kp xx)
          refine wp_region_new2 10 (t0 := 24) (t1 := 24) (z0 := #[.int .i64 0, .int .i64 0]) (z1 := #[.int .i64 0, .int .i64 0]) (by kernel_rfl) (by kernel_rfl) rfl rfl (fun _ _ => by go_simp) rfl rfl (fun _ _ => by go_simp) (by simp) ?_
          simp only [List.take_succ_cons, List.take_zero, List.drop_succ_cons, List.drop_zero]
          repeat (refine wpE_step (fun K hK => ?_); go_simp; first | (refine hK _ ?_; clear hK K) | (apply Exists.intro; refine ⟨fun _ => ?_, hK _ ?_⟩; (go_at_call 70; first | (with_reducible exact HR1.out _) | (with_reducible exact HR2.out _)); clear hK K))
          refine wpE_nil ?_
          intro g0 g1 w2 hk l0 h0 l1 h1 n01
          simp only [Act.put, List.setIfInBounds_toArray, List.set_cons_zero, List.set_cons_succ]
          have l0' := Nat.le_trans (exN_kp xx).size l0
          have l1' := Nat.le_trans (exN_kp xx).size l1
          simp only [World.size_alloc] at l0' l1'
          have BR := BR.kp hk
          have K2 : w.grownBy w2 none := kp_trans (by repeat (first | with_reducible assumption | with_reducible exact gr_refl _ _ | with_reducible refine kp_alloc ?_ _ | ((with_reducible refine kp_set ?_ ?_ _); rotate_left; focus (dsimp only; omega)) | with_reducible refine kp_ex ?_ _ | with_reducible refine kp_drewN ?_ _ | with_reducible refine kp_drew ?_ | with_reducible refine kp_exr ?_ _ | with_reducible refine kp_exr' ?_ _)) hk
          clear hk l0 l1
          obtain ⟨r0, r1, r2, r3, r4⟩ := two_cells h0
          obtain ⟨s0, s1, s2, s3, s4⟩ := two_cells h1
          have n10 := n01.symm
          go_wp2_with fail
          refine gen_wp (fun w' => w.grownBy w' none ∧ Blk w' (w.heap.size + 1 + 1) 24 #[.int .i64 0, .int .i64 0] ∧ Blk w' g0 24 #[.int .i64 x0, .int .i64 x1] ∧ Blk w' g1 24 #[.int .i64 y0, .int .i64 y1]) ⟨(by repeat (first | with_reducible assumption | with_reducible exact gr_refl _ _ | with_reducible refine kp_alloc ?_ _ | ((with_reducible refine kp_set ?_ ?_ _); rotate_left; focus (dsimp only; omega)) | with_reducible refine kp_ex ?_ _ | with_reducible refine kp_drewN ?_ _ | with_reducible refine kp_drew ?_ | with_reducible refine kp_exr ?_ _ | with_reducible refine kp_exr' ?_ _)), (Blk.far (Blk.far (Blk.far (Blk.far BR (by dsimp only; omega) _) (by dsimp only; omega) _) (by dsimp only; omega) _) (by dsimp only; omega) _), (Blk.far (Blk.far (Blk.set1 (Blk.set0 h0 _) _) (by dsimp only; omega) _) (by dsimp only; omega) _), (Blk.set1 (Blk.set0 (Blk.far (Blk.far h1 (by dsimp only; omega) _) (by dsimp only; omega) _) _) _)⟩ ?_
          clear r0 r1 r2 r3 r4 s0 s1 s2 s3 s4 K2 BR h0 h1 w2
          rintro w2 ⟨K2, BR, BX, BY⟩
          obtain ⟨d0, d1, _, _, d2⟩ := two_cells BX
          obtain ⟨d3, d4, _, _, d5⟩ := two_cells BY
          obtain ⟨e0, e1, e2, e3, _⟩ := two_cells BR
          have z1 : w.heap.size + 1 + 1 < w2.heap.size := BR.lt
          have z2 : w.heap.size + 1 + 1 ≤ w2.heap.size := Nat.le_of_lt z1
          have z3 : w.heap.size + 1 + 1 < w2.heap.size + 1 := Nat.lt_succ_of_lt z1
          generalize (x0.natAbs : Int) = xa at *
          generalize (y0.natAbs : Int) = ya at *
          generalize hqq : (100000000000 : Int) / xa = qa at *
          have HQQ := hide hqq
          clear hqq
          refine wp_region_ext none (by kernel_rfl) (by kernel_rfl) ?_
          repeat (go_big_quiet_step (first | (go_at_call 71; first | (with_reducible exact ext_call (HX.out _)) | (with_reducible exact ext_call (HY.out _)))))
          refine wpQuiet_nil ?_
          rintro _ ⟨x, rfl⟩
          go_wp2_with fail
          refine bodyPost_ret (v := .tuple #[.agg #[.int .i64 0, .int .i64 0], .bool false]) (by simp [results, Try.results16, go_sem, z1, z2, z3, e0, e1]) rfl ?_
          exact ⟨by simp [orZ], (by repeat (first | with_reducible assumption | with_reducible exact gr_refl _ _ | with_reducible refine kp_alloc ?_ _ | ((with_reducible refine kp_set ?_ ?_ _); rotate_left; focus (dsimp only; omega)) | with_reducible refine kp_ex ?_ _ | with_reducible refine kp_drewN ?_ _ | with_reducible refine kp_drew ?_ | with_reducible refine kp_exr ?_ _ | with_reducible refine kp_exr' ?_ _))⟩
        · have hbf := Bool.eq_false_iff.2 hb
          have hnb := not_bad x0 y0 hbf (by omega)
          rw [hbf] at hok
          simp only [Bool.not_false, Bool.true_and] at hok
          have HM := hide fun W => made_any (x0 * y0) (x1 * y1) W
          rw [hok] at HM
          have hlt : ¬ 100000000000 / (x0.natAbs : Int) < (y0.natAbs : Int) := by
            unfold mulBad at hbf
            simpa [hx0] using hbf
          obtain ⟨hn1, hn2⟩ := hnb
          clear hb hbf hx0 hok
          go_enter Try.func16, Try.ntmps16
          go_wp2_with fail
          first | refine (ext_call (H1.out _)).mono ?_ | refine (to_ex (H1.out _)).mono ?_
          rintro e w' ⟨rfl, xx, rfl⟩
          go_wp2_with fail
          first | refine (ext_call (H2.out _)).mono ?_ | refine (to_ex (H2.out _)).mono ?_
          rintro e w' ⟨rfl, xx, rfl⟩
          go_wp2_with fail
          have BR : Blk _ (w.heap.size + 1 + 1) 24 #[.int .i64 0, .int .i64 0] := (Blk.at_ _ _ _ _ (by simp)).kp (exN_kp xx)
          refine wp_region_new2 10 (t0 := 24) (t1 := 24) (z0 := #[.int .i64 0, .int .i64 0]) (z1 := #[.int .i64 0, .int .i64 0]) (by kernel_rfl) (by kernel_rfl) rfl rfl (fun _ _ => by go_simp) rfl rfl (fun _ _ => by go_simp) (by simp) ?_
          simp only [List.take_succ_cons, List.take_zero, List.drop_succ_cons, List.drop_zero]
          repeat (refine wpE_step (fun K hK => ?_); go_simp; first | (refine hK _ ?_; clear hK K) | (apply Exists.intro; refine ⟨fun _ => ?_, hK _ ?_⟩; (go_at_call 70; first | (with_reducible exact HR1.out _) | (with_reducible exact HR2.out _)); clear hK K))
          refine wpE_nil ?_
          intro g0 g1 w2 hk l0 h0 l1 h1 n01
          simp only [Act.put, List.setIfInBounds_toArray, List.set_cons_zero, List.set_cons_succ]
          have l0' := Nat.le_trans (exN_kp xx).size l0
          have l1' := Nat.le_trans (exN_kp xx).size l1
          simp only [World.size_alloc] at l0' l1'
          have BR := BR.kp hk
          have K2 : w.grownBy w2 none := kp_trans (by repeat (first | with_reducible assumption | with_reducible exact gr_refl _ _ | with_reducible refine kp_alloc ?_ _ | ((with_reducible refine kp_set ?_ ?_ _); rotate_left; focus (dsimp only; omega)) | with_reducible refine kp_ex ?_ _ | with_reducible refine kp_drewN ?_ _ | with_reducible refine kp_drew ?_ | with_reducible refine kp_exr ?_ _ | with_reducible refine kp_exr' ?_ _)) hk
          clear hk l0 l1
          obtain ⟨r0, r1, r2, r3, r4⟩ := two_cells h0
          obtain ⟨s0, s1, s2, s3, s4⟩ := two_cells h1
          have n10 := n01.symm
          go_wp2_with fail
          refine gen_wp (fun w' => w.grownBy w' none ∧ Blk w' (w.heap.size + 1 + 1) 24 #[.int .i64 0, .int .i64 0] ∧ Blk w' g0 24 #[.int .i64 x0, .int .i64 x1] ∧ Blk w' g1 24 #[.int .i64 y0, .int .i64 y1]) ⟨(by repeat (first | with_reducible assumption | with_reducible exact gr_refl _ _ | with_reducible refine kp_alloc ?_ _ | ((with_reducible refine kp_set ?_ ?_ _); rotate_left; focus (dsimp only; omega)) | with_reducible refine kp_ex ?_ _ | with_reducible refine kp_drewN ?_ _ | with_reducible refine kp_drew ?_ | with_reducible refine kp_exr ?_ _ | with_reducible refine kp_exr' ?_ _)), (Blk.far (Blk.far (Blk.far (Blk.far BR (by dsimp only; omega) _) (by dsimp only; omega) _) (by dsimp only; omega) _) (by dsimp only; omega) _), (Blk.far (Blk.far (Blk.set1 (Blk.set0 h0 _) _) (by dsimp only; omega) _) (by dsimp only; omega) _), (Blk.set1 (Blk.set0 (Blk.far (Blk.far h1 (by dsimp only; omega) _) (by dsimp only; omega) _) _) _)⟩ ?_
          clear r0 r1 r2 r3 r4 s0 s1 s2 s3 s4 K2 BR h0 h1 w2
          rintro w2 ⟨K2, BR, BX, BY⟩
          obtain ⟨d0, d1, _, _, d2⟩ := two_cells BX
          obtain ⟨d3, d4, _, _, d5⟩ := two_cells BY
          obtain ⟨e0, e1, e2, e3, _⟩ := two_cells BR
          have z1 : w.heap.size + 1 + 1 < w2.heap.size := BR.lt
          have z2 : w.heap.size + 1 + 1 ≤ w2.heap.size := Nat.le_of_lt z1
          have z3 : w.heap.size + 1 + 1 < w2.heap.size + 1 := Nat.lt_succ_of_lt z1
          generalize (x0.natAbs : Int) = xa at *
          generalize (y0.natAbs : Int) = ya at *
          generalize hqq : (100000000000 : Int) / xa = qa at *
          have HQQ := hide hqq
          clear hqq
          refine wp_region_ext none (by kernel_rfl) (by kernel_rfl) ?_
          repeat (go_big_quiet_step (first | (go_at_call 71; first | (with_reducible exact ext_call (HX.out _)) | (with_reducible exact ext_call (HY.out _)))))
          refine wpQuiet_nil ?_
          rintro _ ⟨x, rfl⟩
          go_wp2_with fail
          first | refine (ext_call (HM.out _)).mono ?_ | refine (to_ex (HM.out _)).mono ?_
          rintro e w' ⟨rfl, xx, rfl⟩
          go_wp2_with fail
          refine bodyPost_ret (v := .tuple #[.agg #[.int .i64 (orZ ok (x0 * y0)), .int .i64 (orZ ok (x1 * y1))], .bool ok]) (by simp [results, Try.results16, go_sem, z1, z2, z3, e0, e1]) rfl ?_
          exact ⟨by simp, (by repeat (first | with_reducible assumption | with_reducible exact gr_refl _ _ | with_reducible refine kp_alloc ?_ _ | ((with_reducible refine kp_set ?_ ?_ _); rotate_left; focus (dsimp only; omega)) | with_reducible refine kp_ex ?_ _ | with_reducible refine kp_drewN ?_ _ | with_reducible refine kp_drew ?_ | with_reducible refine kp_exr ?_ _ | with_reducible refine kp_exr' ?_ _))⟩
    · rw [h1, Bool.eq_false_iff.2 h2] at hok
      simp at hok
      have H1 := hide fun W => irvalid_t h1 W
      have H2 := hide fun W => irvalid_f h2 W
      subst hok
      clear h1 h2
      go_enter Try.func16, Try.ntmps16
      go_wp2_with fail
      first | refine (ext_call (H1.out _)).mono ?_ | refine (to_ex (H1.out _)).mono ?_
      rintro e w' ⟨rfl, xx, rfl⟩
      go_wp2_with fail
      first | refine (ext_call (H2.out _)).mono ?_ | refine (to_ex (H2.out _)).mono ?_
      rintro e w' ⟨rfl, xx, rfl⟩
      go_wp2_with fail
      refine bodyPost_ret (v := .tuple #[.agg #[.int .i64 0, .int .i64 0], .bool false]) (by simp [results, Try.results16, go_sem]) rfl ?_
      exact ⟨by simp [orZ], (by repeat (first | with_reducible assumption | with_reducible exact gr_refl _ _ | with_reducible refine kp_alloc ?_ _ | ((with_reducible refine kp_set ?_ ?_ _); rotate_left; focus (dsimp only; omega)) | with_reducible refine kp_ex ?_ _ | with_reducible refine kp_drewN ?_ _ | with_reducible refine kp_drew ?_ | with_reducible refine kp_exr ?_ _ | with_reducible refine kp_exr' ?_ _))⟩
  · rw [Bool.eq_false_iff.2 h1] at hok
    simp at hok
    have H1 := hide fun W => irvalid_f h1 W
    subst hok
    clear h1
    go_enter Try.func16, Try.ntmps16
    go_wp2_with fail
    first | refine (ext_call (H1.out _)).mono ?_ | refine (to_ex (H1.out _)).mono ?_
    rintro e w' ⟨rfl, xx, rfl⟩
    go_wp2_with fail
    refine bodyPost_ret (v := .tuple #[.agg #[.int .i64 0, .int .i64 0], .bool false]) (by simp [results, Try.results16, go_sem]) rfl ?_
    exact ⟨by simp [orZ], (by repeat (first | with_reducible assumption | with_reducible exact gr_refl _ _ | with_reducible refine kp_alloc ?_ _ | ((with_reducible refine kp_set ?_ ?_ _); rotate_left; focus (dsimp only; omega)) | with_reducible refine kp_ex ?_ _ | with_reducible refine kp_drewN ?_ _ | with_reducible refine kp_drew ?_ | with_reducible refine kp_exr ?_ _ | with_reducible refine kp_exr' ?_ _))⟩
end Go.Proofs.Ytndkhbilefljnaa
