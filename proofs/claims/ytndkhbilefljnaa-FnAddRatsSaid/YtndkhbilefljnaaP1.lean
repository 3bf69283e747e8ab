/- Contracts for functions on points: the program's. -/
import Derived.Test.YtndkhbilefljnaaBase
namespace Go.Proofs.Ytndkhbilefljnaa
open Go.RowKit

theorem within_any (n a b : Int) (w : World) :
    Calls Try.prog 126 #[.int .i64 n, .int .i64 a, .int .i64 b] w fun e w' => e = .returned (.bool (decide (a ≤ n) && decide (n ≤ b))) ∧ w = w' := by
  go_enter Try.func126, Try.ntmps126
  go_wp2
  all_goals (go_ret; refine ⟨?_, rfl⟩; congr 1; congr 1; simp; try omega)

/-- A valid point. -/
def okP (x y : Int) : Bool := decide (-1000 ≤ x ∧ x ≤ 1000 ∧ -1000 ≤ y ∧ y ≤ 1000)
theorem okP_bd {x y : Int} (h : okP x y = true) : -1000 ≤ x ∧ x ≤ 1000 ∧ -1000 ≤ y ∧ y ≤ 1000 := of_decide_eq_true h

theorem pvalid_any (x y : Int) (w : World) :
    Calls Try.prog 90 #[.agg #[.int .i64 x, .int .i64 y]] w fun e w' => e = .returned (.bool (okP x y)) ∧ w.grownBy w' none := by
  go_enter Try.func90, Try.ntmps90
  go_wp2_with (go_at_call 126; refine (within_any _ _ _ _).mono ?_; rintro e w' ⟨rfl, rfl⟩)
  all_goals (go_ret; refine ⟨?_, kp_alloc (gr_refl _ _) _⟩; exact ret_bool (by unfold okP; rw [Bool.eq_iff_iff]; simp; try omega))

theorem minus_any (x y u v : Int) (w : World) (h1 : -1000000 ≤ x) (h2 : x ≤ 1000000) (h3 : -1000000 ≤ y) (h4 : y ≤ 1000000) (g1 : -1000000 ≤ u) (g2 : u ≤ 1000000) (g3 : -1000000 ≤ v) (g4 : v ≤ 1000000) :
    Calls Try.prog 131 #[.agg #[.int .i64 x, .int .i64 y], .agg #[.int .i64 u, .int .i64 v]] w fun e w' => e = .returned (.agg #[.int .i64 (x - u), .int .i64 (y - v)]) ∧ w.grownBy w' none := by
  go_enter Try.func131, Try.ntmps131
  go_wp2
  refine bodyPost_ret (v := .agg #[.int .i64 (x - u), .int .i64 (y - v)]) (by simp [results, Try.results131, go_sem]) rfl ⟨rfl, kp_alloc (kp_alloc (kp_alloc (gr_refl _ _) _) _) _⟩

theorem dot_any (x y u v : Int) (w : World) (h1 : -1000000 ≤ x) (h2 : x ≤ 1000000) (h3 : -1000000 ≤ y) (h4 : y ≤ 1000000) (g1 : -1000000 ≤ u) (g2 : u ≤ 1000000) (g3 : -1000000 ≤ v) (g4 : v ≤ 1000000) :
    Calls Try.prog 132 #[.agg #[.int .i64 x, .int .i64 y], .agg #[.int .i64 u, .int .i64 v]] w fun e w' => e = .returned (.int .i64 (x * u + y * v)) ∧ w.grownBy w' none := by
  obtain ⟨b1, b2⟩ := mul_bd x u 1000000 1000000 h1 h2 g1 g2
  obtain ⟨b3, b4⟩ := mul_bd y v 1000000 1000000 h3 h4 g3 g4
  go_enter Try.func132, Try.ntmps132
  go_wp2
  go_ret
  exact ⟨rfl, kp_alloc (kp_alloc (gr_refl _ _) _) _⟩

theorem pcross_any (x y u v : Int) (w : World) (h1 : -1000000 ≤ x) (h2 : x ≤ 1000000) (h3 : -1000000 ≤ y) (h4 : y ≤ 1000000) (g1 : -1000000 ≤ u) (g2 : u ≤ 1000000) (g3 : -1000000 ≤ v) (g4 : v ≤ 1000000) :
    Calls Try.prog 137 #[.agg #[.int .i64 x, .int .i64 y], .agg #[.int .i64 u, .int .i64 v]] w fun e w' => e = .returned (.int .i64 (x * v - y * u)) ∧ w.grownBy w' none := by
  obtain ⟨b1, b2⟩ := mul_bd x v 1000000 1000000 h1 h2 g3 g4
  obtain ⟨b3, b4⟩ := mul_bd y u 1000000 1000000 h3 h4 g1 g2
  go_enter Try.func137, Try.ntmps137
  go_wp2
  go_ret
  exact ⟨rfl, kp_alloc (kp_alloc (gr_refl _ _) _) _⟩

/-- Twice the area of a triangle. -/
def trn (ax ay bx bY cx cy : Int) : Int := (bx - ax) * (cy - ay) - (bY - ay) * (cx - ax)

theorem turn_any (ax ay bx bY cx cy : Int) (w : World) (h1 : -100000 ≤ ax) (h2 : ax ≤ 100000) (h3 : -100000 ≤ ay) (h4 : ay ≤ 100000) (g1 : -100000 ≤ bx) (g2 : bx ≤ 100000) (g3 : -100000 ≤ bY) (g4 : bY ≤ 100000)
    (k1 : -100000 ≤ cx) (k2 : cx ≤ 100000) (k3 : -100000 ≤ cy) (k4 : cy ≤ 100000) :
    Calls Try.prog 106 #[.agg #[.int .i64 ax, .int .i64 ay], .agg #[.int .i64 bx, .int .i64 bY], .agg #[.int .i64 cx, .int .i64 cy]] w fun e w' => e = .returned (.int .i64 (trn ax ay bx bY cx cy)) ∧ w.grownBy w' none := by
  go_enter Try.func106, Try.ntmps106
  go_wp2
  refine wp_region_ext none (by kernel_rfl) (by kernel_rfl) ?_
  repeat (go_big_quiet_step (first | (go_at_call 131; exact ext_call (minus_any _ _ _ _ _ (by omega) (by omega) (by omega) (by omega) (by omega) (by omega) (by omega) (by omega))) | (go_at_call 137; exact ext_call (pcross_any _ _ _ _ _ (by omega) (by omega) (by omega) (by omega) (by omega) (by omega) (by omega) (by omega)))))
  refine wpQuiet_nil ?_
  rintro _ ⟨x, rfl⟩
  have hk := exN_kp x
  generalize exN _ none x = w1 at hk ⊢
  clear x
  go_wp2
  go_ret
  exact ⟨rfl, kp_trans (kp_alloc (kp_alloc (kp_alloc (gr_refl _ _) _) _) _) hk⟩
end Go.Proofs.Ytndkhbilefljnaa
