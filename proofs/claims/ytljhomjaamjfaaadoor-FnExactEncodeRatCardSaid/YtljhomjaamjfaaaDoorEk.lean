/- FnExactEncodeRat: the law's walk. -/
import Derived.Test.YtljhomjaamjfaaaDoorEj
namespace Go.Proofs.YtljhomjaamjfaaaDoor
open Go.RowKit Go.Sort
set_option linter.unusedSimpArgs false
set_option linter.unusedVariables false
theorem sEnc_any (n d : Int) (w : World) : Calls Tryd.prog 4 #[.agg #[.int .i64 n, .int .i64 d]] w fun e w' => e = .returned (.string (tx (rtx n d))) ∧ w.grownBy w' none := by
  cases h : okR n d with
  | false =>
    have := sEnc_bad n d h w
    unfold rtx
    rw [if_neg (by rw [h]; decide)]
    exact this
  | true =>
    have bd := okR_bd h
    have HV := hide fun W => srvalid_any n d W
    rw [h] at HV
    have HF : Hid (∀ W, Calls Tryd.prog 8 #[.agg #[.int .i64 n, .int .i64 d]] W fun e w' => e = .returned (.string (tx (rtx n d))) ∧ W.grownBy w' none) := hide fun W => by
      unfold rtx
      rw [if_pos h]
      by_cases h1 : d = 1
      · subst h1
        rw [if_pos rfl]
        exact sfmt_one n bd.1 W
      · rw [if_neg h1]
        exact sfmt_two n d bd.1 bd.2.1 h1 W
    generalize rtx n d = l at *
    clear h bd
    go_enter Tryd.func4, Tryd.ntmps4
    go_wp2_with fail
    refine (HV.out _).mono ?_
    rintro e w1 ⟨rfl, hk⟩
    have c0 : w1.cell? ⟨w.heap.size, 0, none⟩ = some (.int .i64 n) := hk.cell (by simp) (by simp)
    have c1 : w1.cell? ⟨w.heap.size, 1, none⟩ = some (.int .i64 d) := hk.cell (by simp) (by simp)
    go_wp2_with fail
    refine (HF.out _).mono ?_
    rintro e w2 ⟨rfl, hk2⟩
    go_wp2_with fail
    go_ret
    exact ⟨rfl, kp_trans (kp_trans (kp_alloc (gr_refl _ _) _) hk) hk2⟩
theorem iEnc_any (n d : Int) (w : World) (ht : Tab w) : Calls Tryd.prog 6 #[.agg #[.int .i64 n, .int .i64 d]] w fun e w' => e = .returned (.string (tx (rtx n d))) ∧ w.grownBy w' none := by
  cases h : okR n d with
  | false =>
    have := iEnc_bad n d h w
    unfold rtx
    rw [if_neg (by rw [h]; decide)]
    exact this
  | true =>
    unfold rtx
    rw [if_pos h]
    by_cases h1 : d = 1
    · subst h1
      rw [if_pos rfl]
      exact iEnc_one n h w ht
    · rw [if_neg h1]
      exact iEnc_two n d h h1 w ht
theorem toRat_any (n d : Int) (w : World) : Calls Tryd.prog 5 #[.agg #[.int .i64 n, .int .i64 d]] w fun e w' => e = .returned (.agg #[.int .i64 n, .int .i64 d]) ∧ w.grownBy w' none := by
  go_enter Tryd.func5, Tryd.ntmps5
  go_wp2_with fail
  refine bodyPost_ret (v := .agg #[.int .i64 n, .int .i64 d]) (by simp [results, Tryd.results5, go_sem]) rfl ⟨rfl, (by repeat (first | with_reducible assumption | with_reducible exact gr_refl _ _ | with_reducible refine kp_alloc ?_ _ | ((with_reducible refine kp_set ?_ ?_ _); rotate_left; focus (dsimp only; omega)) | with_reducible refine kp_ex ?_ _ | with_reducible refine kp_drewN ?_ _ | with_reducible refine kp_drew ?_ | with_reducible refine kp_exr ?_ _ | with_reducible refine kp_exr' ?_ _))⟩
theorem law_any (n d : Int) (w : World) (ht : Tab w) : Calls Tryd.prog 3 #[.agg #[.int .i64 n, .int .i64 d]] w fun e w' => e = .returned (.bool true) ∧ w.grownBy w' none := by
  have HT := hide fun W => toRat_any n d W
  have HS := hide fun W => sEnc_any n d W
  have HI := hide fun W hk => iEnc_any n d W (tab_kp ht hk)
  generalize tx (rtx n d) = s at *
  go_enter Tryd.func3, Tryd.ntmps3
  go_wp2_with fail
  refine (HT.out _).mono ?_
  rintro e w1 ⟨rfl, k1⟩
  have c0 : w1.cell? ⟨w.heap.size, 0, none⟩ = some (.int .i64 n) := k1.cell (by simp) (by simp)
  have c1 : w1.cell? ⟨w.heap.size, 1, none⟩ = some (.int .i64 d) := k1.cell (by simp) (by simp)
  go_wp2_with fail
  refine (HS.out _).mono ?_
  rintro e w2 ⟨rfl, k2⟩
  have c0 := k2.cell c0 (by simp)
  have c1 := k2.cell c1 (by simp)
  go_wp2_with fail
  refine (HT.out _).mono ?_
  rintro e w3 ⟨rfl, k3⟩
  go_wp2_with fail
  have K3 : w.grownBy w3 none := kp_trans (kp_trans (kp_trans (kp_alloc (gr_refl _ _) _) k1) k2) k3
  refine (HI.out _ K3).mono ?_
  rintro e w4 ⟨rfl, k4⟩
  go_wp2_with fail
  go_ret
  exact ⟨rfl, kp_trans K3 k4⟩
end Go.Proofs.YtljhomjaamjfaaaDoor
