/- EncodeRat: both, of every fraction. -/
import Derived.Test.YtljhomjaamjfaaaDoorEi
namespace Go.Proofs.YtljhomjaamjfaaaDoor
open Go.RowKit Go.Sort
set_option linter.unusedSimpArgs false
set_option linter.unusedVariables false
theorem tab_kp {w w' : World} (h : Tab w) (hk : w.grownBy w' none) : Tab w' := by
  unfold Tab Lib.TabIs World.var? at h ⊢
  cases hg : Tryd.prog.globalNamed "internal/strconv.uint64pow10" with
  | none => rw [hg] at h; cases h
  | some g =>
    rw [hg] at h
    have h : (match w.heap[g]? with | some (.cells cs _ _) => some cs | _ => none) = _ := h
    show (match w'.heap[g]? with | some (.cells cs _ _) => some cs | _ => none) = _
    have hlt : g < w.heap.size := by
      rcases Nat.lt_or_ge g w.heap.size with h1 | h1
      · exact h1
      · rw [Array.getElem?_eq_none h1] at h; cases h
    rw [hk.block g hlt (by simp)]
    exact h
theorem itoa_kp {w : World} (ht : Tab w) (n : Int) (h : -100000000000 ≤ n ∧ n ≤ 100000000000) (W : World) (hk : w.grownBy W none) : Calls Tryd.prog 10 #[.int .i64 n] W fun e w' => e = .returned (.string (tx (Lib.itoa n))) ∧ W.grownBy w' none := itoa_any n (by omega) (by omega) W (tab_kp ht hk)
theorem iEnc_one (n : Int) (h : okR n 1 = true) (w : World) (ht : Tab w) : Calls Tryd.prog 6 #[.agg #[.int .i64 n, .int .i64 1]] w fun e w' => e = .returned (.string (tx (Lib.itoa n))) ∧ w.grownBy w' none := by
  have HV := hide fun W => irvalid_any n 1 W
  rw [h] at HV
  have HI := hide fun W hk => itoa_kp ht n (okR_bd h).1 W hk
  go_enter Tryd.func6, Tryd.ntmps6
  go_wp2_with fail
  refine (HV.out _).mono ?_
  rintro e w1 ⟨rfl, hk⟩
  have c0 : w1.cell? ⟨w.heap.size, 0, none⟩ = some (.int .i64 n) := hk.cell (by simp) (by simp)
  have c1 : w1.cell? ⟨w.heap.size, 1, none⟩ = some (.int .i64 1) := hk.cell (by simp) (by simp)
  go_wp2_with fail
  refine (HI.out _ (kp_trans (kp_alloc (gr_refl _ _) _) hk)).mono ?_
  rintro e w2 ⟨rfl, hk2⟩
  go_wp2_with fail
  go_ret
  exact ⟨rfl, kp_trans (kp_trans (kp_alloc (gr_refl _ _) _) hk) hk2⟩
theorem iEnc_two (n d : Int) (h : okR n d = true) (h1 : d ≠ 1) (w : World) (ht : Tab w) : Calls Tryd.prog 6 #[.agg #[.int .i64 n, .int .i64 d]] w fun e w' => e = .returned (.string (tx (Lib.itoa n ++ 47 :: Lib.itoa d))) ∧ w.grownBy w' none := by
  have HV := hide fun W => irvalid_any n d W
  rw [h] at HV
  have bd := okR_bd h
  have HN := hide fun W hk => itoa_kp ht n bd.1 W hk
  have HD := hide fun W hk => itoa_kp ht d (by omega) W hk
  have l1 := itoa_len n bd.1
  have l2 := itoa_len d (by omega)
  clear h bd
  generalize Lib.itoa n = a at *
  generalize Lib.itoa d = b at *
  have z1 : (⟨#[47]⟩ : ByteArray).size = 1 := rfl
  have c1 : ¬ ((tx a).size + (⟨#[47]⟩ : ByteArray).size > 9223372036854775807) := by omega
  have c2 : ¬ ((tx a ++ (⟨#[47]⟩ : ByteArray)).size + (tx b).size > 9223372036854775807) := by rw [ByteArray.size_append]; omega
  have c3 : ¬ ((tx a).size + (⟨#[47]⟩ : ByteArray).size + (tx b).size > 9223372036854775807) := by omega
  have c4 : (tx a).size + 1 + (tx b).size ≤ 9223372036854775807 := by omega
  have c5 : (tx a).size + (⟨#[47]⟩ : ByteArray).size + (tx b).size ≤ 9223372036854775807 := by omega
  have c6 : ¬ (9223372036854775807 < (tx a).size + 1) := by omega
  have c7 : ¬ (9223372036854775807 < (tx a).size + 1 + (tx b).size) := by omega
  clear z1 l1 l2
  have hd1 : (d == 1) = false := by simpa using h1
  go_enter Tryd.func6, Tryd.ntmps6
  go_wp2_with fail
  refine (HV.out _).mono ?_
  rintro e w1 ⟨rfl, hk⟩
  have k0 : w1.cell? ⟨w.heap.size, 0, none⟩ = some (.int .i64 n) := hk.cell (by simp) (by simp)
  have k1 : w1.cell? ⟨w.heap.size, 1, none⟩ = some (.int .i64 d) := hk.cell (by simp) (by simp)
  have k2 : w.heap.size < w1.heap.size := Nat.lt_of_lt_of_le (by simp) hk.size
  have k3 : w.grownBy w1 none := kp_trans (kp_alloc (gr_refl _ _) _) hk
  clear hk
  go_wp2_with fail
  go_region_held3 (fun w' => (w'.cell? ⟨w.heap.size, 0, none⟩ = some (.int .i64 n) ∧ w'.cell? ⟨w.heap.size, 1, none⟩ = some (.int .i64 d)) ∧ w.heap.size < w'.heap.size ∧ w.grownBy w' none) (first | (exact ⟨⟨by simpa using k0, by simpa using k1⟩, by simpa using k2, kp_drew k3⟩) | assumption | exact held_keep (by assumption) (by assumption))
    ((go_at_call 10; (first | with_reducible refine (HN.out _ (held_out (by assumption))).mono ?_ | with_reducible refine (HD.out _ (held_out (by assumption))).mono ?_); rintro e w' ⟨rfl, hk⟩))
  all_goals
    have hS := held_out (by assumption)
    go_wp2_with fail
    go_ret
    refine ⟨?_, hS⟩
    rw [← tx_mid]
    rfl
end Go.Proofs.YtljhomjaamjfaaaDoor
