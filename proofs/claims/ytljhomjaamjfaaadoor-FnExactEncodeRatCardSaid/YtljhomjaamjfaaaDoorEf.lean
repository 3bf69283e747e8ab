/- The reference's numerals. -/
import Derived.Test.YtljhomjaamjfaaaDoorEs
import Derived.RegionCalls
import Derived.Deep.RegionHeld3
namespace Go.Proofs.YtljhomjaamjfaaaDoor
open Go.RowKit Go.Sort
set_option linter.unusedSimpArgs false
set_option linter.unusedVariables false
/-- One digit. -/
def dig (u : Nat) : List UInt8 := [UInt8.ofNat (48 + u)]
theorem conv1 (W : World) (u : Nat) (hu : u < 10) : (convert 34 9 (.slice (some ⟨W.heap.size, 0, none⟩) 1 1)).run Tryd.prog (W.alloc (.cells #[.int .u8 (48 + (u : Int))] 5)) = .ok (.string (tx (dig u))) (W.alloc (.cells #[.int .u8 (48 + (u : Int))] 5)) := by
  refine run_convert_bytes_back (P := Tryd.prog) (W.alloc (.cells #[.int .u8 (48 + (u : Int))] 5)) 34 9 5 ⟨W.heap.size, 0, none⟩ 1 [UInt8.ofNat (48 + u)] Tryd.underlying34 Tryd.underlying5 Tryd.underlying9 ?_
  intro j hj
  have hj0 : j = 0 := by simp at hj; omega
  subst hj0
  have e : ((UInt8.ofNat (48 + u)).toNat : Int) = 48 + (u : Int) := by
    rw [UInt8.toNat_ofNat']
    have : (48 + u) % 2 ^ 8 = 48 + u := Nat.mod_eq_of_lt (by omega)
    omega
  show _ = some (Value.int .u8 ((UInt8.ofNat (48 + u)).toNat : Int))
  rw [e]
  simp [Addr.add]
theorem conv_kept {W w' : World} {u H : Nat} (hu : u < 10) (hk : (W.alloc (.cells #[.int .u8 (48 + (u : Int))] 5)).grownBy w' none) (hH : W.heap.size = H) : (convert 34 9 (.slice (some ⟨H, 0, none⟩) 1 1)).run Tryd.prog w' = .ok (.string (tx (dig u))) w' := by
  subst hH
  refine run_convert_bytes_back (P := Tryd.prog) w' 34 9 5 ⟨W.heap.size, 0, none⟩ 1 [UInt8.ofNat (48 + u)] Tryd.underlying34 Tryd.underlying5 Tryd.underlying9 ?_
  intro j hj
  have hj0 : j = 0 := by simp at hj; omega
  subst hj0
  have e : ((UInt8.ofNat (48 + u)).toNat : Int) = 48 + (u : Int) := by
    rw [UInt8.toNat_ofNat']
    have : (48 + u) % 2 ^ 8 = 48 + u := Nat.mod_eq_of_lt (by omega)
    omega
  show _ = some (Value.int .u8 ((UInt8.ofNat (48 + u)).toNat : Int))
  rw [e]
  exact hk.cell (by simp [Addr.add]) (by simp)
theorem gr_undrew {a b : World} (h : a.drew.grownBy b none) : a.grownBy b none := ⟨h.os, h.tape, h.output, h.size, h.block⟩
theorem tx_append (a b : List UInt8) : tx a ++ tx b = tx (a ++ b) := by
  unfold tx
  apply ByteArray.ext
  simp
theorem fmt_small (u : Nat) (hu : u < 10) (w : World) : Calls Tryd.prog 14 #[.int .i64 (u : Int)] w fun e w' => e = .returned (.string (tx (Lib.decDigits u))) ∧ w.grownBy w' none := by
  have h1 : ¬ ((u : Int) < -9223372036854775807) := by omega
  have h2 : ¬ ((u : Int) < 0) := by omega
  have h3 : (u : Int) < 10 := by omega
  have hcv := conv1 w u hu
  go_enter Tryd.func14, Tryd.ntmps14
  go_wp2_with fail
  go_ret
  refine ⟨?_, (by repeat (first | with_reducible assumption | with_reducible exact gr_refl _ _ | with_reducible refine kp_alloc ?_ _ | ((with_reducible refine kp_set ?_ ?_ _); rotate_left; focus (dsimp only; omega)) | with_reducible refine kp_ex ?_ _ | with_reducible refine kp_drewN ?_ _ | with_reducible refine kp_drew ?_ | with_reducible refine kp_exr ?_ _ | with_reducible refine kp_exr' ?_ _))⟩
  rw [Lib.decDigits, dif_pos hu]
  rfl
theorem dd_len : ∀ n u : Nat, u ≤ n → (Lib.decDigits u).length ≤ u + 1
  | 0, u, h => by
    rw [Lib.decDigits, dif_pos (by omega)]; simp
  | n + 1, u, h => by
    rw [Lib.decDigits]
    split
    · simp
    · have := dd_len n (u / 10) (by omega)
      simp only [List.length_append, List.length_singleton]
      omega
theorem tx_size (l : List UInt8) : (tx l).size = l.length := by simp [tx, ByteArray.size]
set_option maxRecDepth 100000 in
set_option maxHeartbeats 2000000 in
theorem fmt_big (u q r : Nat) (hu : ¬ u < 10) (hb : u ≤ 9223372036854775807) (hq : (u : Int).tdiv 10 = q) (hr : (u : Int).tmod 10 = r) (hr9 : r < 10) (hl : Lib.decDigits u = Lib.decDigits q ++ dig r) (IH : ∀ W : World, Calls Tryd.prog 14 #[.int .i64 (q : Int)] W fun e w' => e = .returned (.string (tx (Lib.decDigits q))) ∧ W.grownBy w' none) (w : World) :
    Calls Tryd.prog 14 #[.int .i64 (u : Int)] w fun e w' => e = .returned (.string (tx (Lib.decDigits u))) ∧ w.grownBy w' none := by
  have h1 : ¬ ((u : Int) < -9223372036854775807) := by omega
  have h2 : ¬ ((u : Int) < 0) := by omega
  have h3 : ¬ ((u : Int) < 10) := by omega
  have HI := hide IH
  clear IH
  go_enter Tryd.func14, Tryd.ntmps14
  go_wp2_with fail
  have hcv := fun W => conv1 W r hr9
  have hcvd := conv_kept (W := w) (w' := (w.alloc (.cells #[.int .u8 (48 + (r : Int))] 5)).drew) (H := w.heap.size) hr9 ⟨rfl, rfl, rfl, Nat.le_refl _, fun _ _ _ => rfl⟩ rfl
  have hq9 : (q : Int) ≤ 922337203685477580 := by
    rw [← hq, Int.tdiv_eq_ediv_of_nonneg (by omega)]; omega
  have HL := hide hl
  clear hl
  have hcat : ((tx (Lib.decDigits q)).size : Int) + ((tx (dig r)).size : Int) ≤ 9223372036854775807 := by
    have := dd_len q q (Nat.le_refl _)
    rw [tx_size, tx_size]
    simp only [dig, List.length_singleton]
    omega
  have hcat2 : ¬ ((tx (Lib.decDigits q)).size + (tx (dig r)).size > 9223372036854775807) := by omega
  have hw1 : IntKind.i64.wrap (q : Int) = q := IntWalk.i64_in _ ⟨by omega, by omega⟩
  have hw2 : IntKind.i64.wrap (48 + (r : Int)) = 48 + r := IntWalk.i64_in _ ⟨by omega, by omega⟩
  have hw3 : IntKind.u8.wrap (48 + (r : Int)) = 48 + r := by rw [IntKind.wrap_u8]; omega
  go_region_with (go_at_call 14; refine (HI.out _).mono ?_; rintro e w' ⟨rfl, hk⟩; first | have hcv2 := conv_kept (H := w.heap.size) hr9 hk rfl | have hcv2 := conv_kept (H := w.heap.size) hr9 (gr_undrew hk) rfl | skip)
  all_goals
    go_wp2_with fail
    go_ret
    refine ⟨?_, ?_⟩
    · rw [HL.out, ← tx_append]; rfl
    · first | exact kp_alloc (gr_undrew hk) _ | exact kp_trans (kp_alloc (gr_refl _ _) _) (gr_undrew hk) | exact kp_trans (kp_alloc (gr_refl _ _) _) hk | exact kp_trans (kp_drew (kp_alloc (gr_refl _ _) _)) hk
theorem fmt_nat : ∀ (n u : Nat), u ≤ n → u ≤ 9223372036854775807 → ∀ W : World, Calls Tryd.prog 14 #[.int .i64 (u : Int)] W fun e w' => e = .returned (.string (tx (Lib.decDigits u))) ∧ W.grownBy w' none
  | 0, u, h, _, W => fmt_small u (by omega) W
  | n + 1, u, h, hb, W => by
    by_cases hu : u < 10
    · exact fmt_small u hu W
    · refine fmt_big u (u / 10) (u % 10) hu hb (by rw [Int.tdiv_eq_ediv_of_nonneg (by omega)]; omega) (by rw [Int.tmod_eq_emod_of_nonneg (by omega)]; omega) (by omega) ?_ (fun W => fmt_nat n (u / 10) (by omega) (by omega) W) W
      rw [Lib.decDigits, dif_neg hu]
      rfl
end Go.Proofs.YtljhomjaamjfaaaDoor
