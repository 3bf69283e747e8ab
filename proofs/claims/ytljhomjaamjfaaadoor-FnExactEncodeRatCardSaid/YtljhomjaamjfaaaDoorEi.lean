/- EncodeRat of fractions with two numbers. -/
import Derived.Test.YtljhomjaamjfaaaDoorEh
import Derived.Deep.RegionHeld3
namespace Go.Proofs.YtljhomjaamjfaaaDoor
open Go.RowKit Go.Sort
set_option linter.unusedSimpArgs false
set_option linter.unusedVariables false
theorem held_keep {w W w' : World} {x y : Value} (h : (W.cell? ⟨w.heap.size, 0, none⟩ = some x ∧ W.cell? ⟨w.heap.size, 1, none⟩ = some y) ∧ w.heap.size < W.heap.size ∧ w.grownBy W none) (hk : W.grownBy w' none) :
    (w'.cell? ⟨w.heap.size, 0, none⟩ = some x ∧ w'.cell? ⟨w.heap.size, 1, none⟩ = some y) ∧ w.heap.size < w'.heap.size ∧ w.grownBy w' none :=
  ⟨⟨hk.cell h.1.1 (by simp), hk.cell h.1.2 (by simp)⟩, Nat.lt_of_lt_of_le h.2.1 hk.size, kp_trans h.2.2 hk⟩
theorem held_out {w W : World} {x y : Value} (h : (W.cell? ⟨w.heap.size, 0, none⟩ = some x ∧ W.cell? ⟨w.heap.size, 1, none⟩ = some y) ∧ w.heap.size < W.heap.size ∧ w.grownBy W none) : w.grownBy W none := h.2.2
theorem tx_mid (a b : List UInt8) : tx a ++ (⟨#[47]⟩ : ByteArray) ++ tx b = tx (a ++ 47 :: b) := by
  have h1 := tx_append a [47]
  have h2 := tx_append (a ++ [47]) b
  rw [List.append_assoc] at h2
  rw [← h1] at h2
  exact h2
set_option maxRecDepth 100000 in
set_option maxHeartbeats 4000000 in
theorem sfmt_two (n d : Int) (hn : -100000000000 ≤ n ∧ n ≤ 100000000000) (hd : 1 ≤ d ∧ d ≤ 20000000) (h1 : d ≠ 1) (w : World) : Calls Tryd.prog 8 #[.agg #[.int .i64 n, .int .i64 d]] w fun e w' => e = .returned (.string (tx (Lib.itoa n ++ 47 :: Lib.itoa d))) ∧ w.grownBy w' none := by
  have HN := hide fun W => fmt_any n hn W
  have HD := hide fun W => fmt_any d (by omega) W
  have l1 := itoa_len n hn
  have l2 := itoa_len d (by omega)
  generalize Lib.itoa n = a at *
  generalize Lib.itoa d = b at *
  have z1 : (⟨#[47]⟩ : ByteArray).size = 1 := rfl
  have c1 : ¬ ((tx a).size + (⟨#[47]⟩ : ByteArray).size > 9223372036854775807) := by omega
  have c2 : ¬ ((tx a ++ (⟨#[47]⟩ : ByteArray)).size + (tx b).size > 9223372036854775807) := by rw [ByteArray.size_append]; omega
  have c3 : ¬ ((tx a).size + (⟨#[47]⟩ : ByteArray).size + (tx b).size > 9223372036854775807) := by omega
  have c4 : (tx a).size + 1 + (tx b).size ≤ 9223372036854775807 := by omega
  have c5 : (tx a).size + (⟨#[47]⟩ : ByteArray).size + (tx b).size ≤ 9223372036854775807 := by omega
  have c6 : ¬ (9223372036854775807 < (tx a).size + 1) := by omega
  have c7 : ¬ (9223372036854775807 < (tx a).size + 1 + (tx b).size) := by omega
  clear z1 l1 l2
  have hd1 : (d == 1) = false := by simpa using h1
  go_enter Tryd.func8, Tryd.ntmps8
  go_wp2_with fail
  go_region_held3 (fun w' => (w'.cell? ⟨w.heap.size, 0, none⟩ = some (.int .i64 n) ∧ w'.cell? ⟨w.heap.size, 1, none⟩ = some (.int .i64 d)) ∧ w.heap.size < w'.heap.size ∧ w.grownBy w' none) (first | (refine ⟨⟨by simp, by simp⟩, by simp, kp_drew (kp_alloc (gr_refl _ _) _)⟩) | assumption | exact held_keep (by assumption) (by assumption))
    ((go_at_call 14; (first | with_reducible refine (HN.out _).mono ?_ | with_reducible refine (HD.out _).mono ?_); rintro e w' ⟨rfl, hk⟩))
  all_goals
    have hS := held_out (by assumption)
    go_wp2_with fail
    go_ret
    refine ⟨?_, hS⟩
    rw [← tx_mid]
    rfl
end Go.Proofs.YtljhomjaamjfaaaDoor
