/- Random points: contracts. -/
import Derived.Test.YtndkhbilefljnaaRd
namespace Go.Proofs.Ytndkhbilefljnaa
open Go.RowKit

def RandPt (lo hi : Int) (rb q : Nat) (w : World) (e : Ending) (w' : World) : Prop :=
  ∃ x y : Int, lo ≤ x ∧ x ≤ hi ∧ lo ≤ y ∧ y ≤ hi ∧ e = .returned (.agg #[.int .i64 x, .int .i64 y]) ∧ Rd w' rb q ∧ w.grownBy w' (some rb)

theorem ne_of_lt {a b : Nat} (h : b < a) : some a ≠ some b := fun e => by injection e; omega

set_option maxHeartbeats 400000 in
theorem randomPoint_any (rb q : Nat) (w : World) (h : Rd w rb q) (hq : q ≤ 900000) :
    Calls Try.prog 129 #[.pointer (some ⟨rb, 0, none⟩)] w (RandPt (-2) 6 rb (q + 2) w) := by
  have hlt := h.lt
  go_enter Try.func129, Try.ntmps129
  go_wp2_with fail
  refine (pick_any rb q 9 _ (h.kp (World.grownBy_alloc _ _ _)) (by omega) (by omega) (by omega)).mono ?_
  rintro e w1 ⟨k, k0, k1, rfl, hr, hg⟩
  have hb := (Blk.new w 46 #[.int .i64 0, .int .i64 0]).kept hg (ne_of_lt hlt)
  go_wp2_with fail
  refine (pick_any rb (q + 1) 9 _ hr (by omega) (by omega) (by omega)).mono ?_
  rintro e w2 ⟨k', k0', k1', rfl, hr', hg'⟩
  have hb' := hb.kept hg' (ne_of_lt hlt)
  obtain ⟨c0, c1, f0, f1, z0⟩ := two_cells hb'
  go_wp2_with fail
  refine bodyPost_ret (v := .agg #[.int .i64 (k - 2), .int .i64 (k' - 2)]) (by simp [results, Try.results129, go_sem, c0, c1]) rfl ?_
  have k1 := gr_trans (t := some rb) (kp_trans' (World.grownBy_alloc w (.cells #[.int .i64 0, .int .i64 0] 46) none) hg) hg' (fun _ e _ => e) (fun _ e _ => e)
  exact ⟨k - 2, k' - 2, by omega, by omega, by omega, by omega, rfl, ((hr'.set hlt _).set hlt _).more (by omega), kp_set (kp_set k1 (Nat.le_refl _) _) (Nat.le_refl _) _⟩
end Go.Proofs.Ytndkhbilefljnaa
