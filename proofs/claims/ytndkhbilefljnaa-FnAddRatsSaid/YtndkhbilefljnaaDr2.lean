/- What the generators draw: a triangle and a point. -/
import Derived.Test.YtndkhbilefljnaaDr1
import Derived.Deep.DeepCutAuto
import Derived.Deep.CutBlock
namespace Go.Proofs.Ytndkhbilefljnaa
open Go.RowKit

theorem tdiv2_bd (s : Int) (h1 : -4000 ≤ s) (h2 : s ≤ 4000) : -4000 ≤ s.tdiv 2 ∧ s.tdiv 2 ≤ 4000 := by
  rw [Int.tdiv_eq_ediv, show Int.sign 2 = 1 from rfl]
  split <;> omega

set_option maxHeartbeats 4000000 in
theorem drawInTriangle_any (A : Option Addr) (m c : Nat) (w : World) (hc : Code_ w A m c) (hm : m ≤ 1048576) :
    Calls Try.prog 58 #[.slice A m c] w (Draws4 w) := by
  go_enter Try.func58, Try.ntmps58
  go_wp2_with fail
  have hc' := (((hc.alloc (.cells #[.int .i64 0, .int .i64 0] 46)).alloc (.cells #[.int .i64 0, .int .i64 0] 46)).alloc (.cells #[.int .i64 0, .int .i64 0] 46)).alloc (.cells #[.int .i64 0, .int .i64 0] 46)
  refine (newReader_any A m c _ hc'.1 hm (by simpa using hc'.2)).mono ?_
  rintro e w1 ⟨rfl, hr, hg⟩
  have R0 : Blk w1 w.heap.size 46 #[.int .i64 0, .int .i64 0] := ((((Blk.at_ w _ _ _ rfl).alloc _).alloc _).alloc _).kp hg
  have R1 : Blk w1 (w.heap.size + 1) 46 #[.int .i64 0, .int .i64 0] := (((Blk.at_ _ _ _ _ (by simp)).alloc _).alloc _).kp hg
  have R2 : Blk w1 (w.heap.size + 1 + 1) 46 #[.int .i64 0, .int .i64 0] := ((Blk.at_ _ _ _ _ (by simp)).alloc _).kp hg
  have R3 : Blk w1 (w.heap.size + 1 + 1 + 1) 46 #[.int .i64 0, .int .i64 0] := (Blk.at_ _ _ _ _ (by simp)).kp hg
  have K : w.grownBy w1 none := kp_trans (by repeat (first | with_reducible assumption | with_reducible exact gr_refl _ _ | with_reducible refine kp_alloc ?_ _ | ((with_reducible refine kp_set ?_ ?_ _); rotate_left; focus (dsimp only; omega)) | with_reducible refine kp_ex ?_ _ | with_reducible refine kp_drewN ?_ _ | with_reducible refine kp_drew ?_ | with_reducible refine kp_exr ?_ _ | with_reducible refine kp_exr' ?_ _)) hg
  clear hg hc' hc
  simp only [World.size_alloc] at hr
  go_wp2_with fail
  refine (anyPoint_any (w.heap.size + 1 + 1 + 1 + 1) 0 _ hr (by omega)).mono ?_
  rintro e w2 ⟨x0, y0, h1, h2, h3, h4, rfl, hr, hg⟩
  have hlt := hr.lt
  have hz := hg.size
  try simp only [World.size_alloc] at hz
  have R0 := R0.kept hg (ne_of (by omega))
  have R1 := R1.kept hg (ne_of (by omega))
  have R2 := R2.kept hg (ne_of (by omega))
  have R3 := R3.kept hg (ne_of (by omega))
  have K : w.grownBy w2 none := kp_rd ((by repeat (first | with_reducible assumption | with_reducible exact gr_refl _ _ | with_reducible refine kp_alloc ?_ _ | ((with_reducible refine kp_set ?_ ?_ _); rotate_left; focus (dsimp only; omega)) | with_reducible refine kp_ex ?_ _ | with_reducible refine kp_drewN ?_ _ | with_reducible refine kp_drew ?_ | with_reducible refine kp_exr ?_ _ | with_reducible refine kp_exr' ?_ _))) hg (by omega)
  clear hg
  go_wp2_with fail
  have R0 := R0.alloc (.cells #[.int .i64 x0, .int .i64 y0] 46)
  have R1 := R1.alloc (.cells #[.int .i64 x0, .int .i64 y0] 46)
  have R2 := R2.alloc (.cells #[.int .i64 x0, .int .i64 y0] 46)
  have R3 := R3.alloc (.cells #[.int .i64 x0, .int .i64 y0] 46)
  have B0 := Blk.at_ w2 46 #[.int .i64 x0, .int .i64 y0] w2.heap.size rfl
  refine (anyPoint_any (w.heap.size + 1 + 1 + 1 + 1) (0 + 4) _ (hr.alloc _) (by omega)).mono ?_
  rintro e w3 ⟨x1, y1, h5, h6, h7, h8, rfl, hr, hg⟩
  have hlt := hr.lt
  have hz := hg.size
  try simp only [World.size_alloc] at hz
  have R0 := R0.kept hg (ne_of (by omega))
  have R1 := R1.kept hg (ne_of (by omega))
  have R2 := R2.kept hg (ne_of (by omega))
  have R3 := R3.kept hg (ne_of (by omega))
  have B0 := B0.kept hg (ne_of (by omega))
  have K : w.grownBy w3 none := kp_rd ((by repeat (first | with_reducible assumption | with_reducible exact gr_refl _ _ | with_reducible refine kp_alloc ?_ _ | ((with_reducible refine kp_set ?_ ?_ _); rotate_left; focus (dsimp only; omega)) | with_reducible refine kp_ex ?_ _ | with_reducible refine kp_drewN ?_ _ | with_reducible refine kp_drew ?_ | with_reducible refine kp_exr ?_ _ | with_reducible refine kp_exr' ?_ _))) hg (by omega)
  clear hg
  go_wp2_with fail
  have R0 := R0.alloc (.cells #[.int .i64 x1, .int .i64 y1] 46)
  have R1 := R1.alloc (.cells #[.int .i64 x1, .int .i64 y1] 46)
  have R2 := R2.alloc (.cells #[.int .i64 x1, .int .i64 y1] 46)
  have R3 := R3.alloc (.cells #[.int .i64 x1, .int .i64 y1] 46)
  have B0 := B0.alloc (.cells #[.int .i64 x1, .int .i64 y1] 46)
  have B1 := Blk.at_ w3 46 #[.int .i64 x1, .int .i64 y1] w3.heap.size rfl
  refine (anyPoint_any (w.heap.size + 1 + 1 + 1 + 1) (0 + 4 + 4) _ (hr.alloc _) (by omega)).mono ?_
  rintro e w4 ⟨x2, y2, g1, g2, g3, g4, rfl, hr, hg⟩
  have hlt := hr.lt
  have hz := hg.size
  try simp only [World.size_alloc] at hz
  have R0 := R0.kept hg (ne_of (by omega))
  have R1 := R1.kept hg (ne_of (by omega))
  have R2 := R2.kept hg (ne_of (by omega))
  have R3 := R3.kept hg (ne_of (by omega))
  have B0 := B0.kept hg (ne_of (by omega))
  have B1 := B1.kept hg (ne_of (by omega))
  have K : w.grownBy w4 none := kp_rd ((by repeat (first | with_reducible assumption | with_reducible exact gr_refl _ _ | with_reducible refine kp_alloc ?_ _ | ((with_reducible refine kp_set ?_ ?_ _); rotate_left; focus (dsimp only; omega)) | with_reducible refine kp_ex ?_ _ | with_reducible refine kp_drewN ?_ _ | with_reducible refine kp_drew ?_ | with_reducible refine kp_exr ?_ _ | with_reducible refine kp_exr' ?_ _))) hg (by omega)
  clear hg
  go_wp2_with fail
  have R0 := R0.alloc (.cells #[.int .i64 x2, .int .i64 y2] 46)
  have R1 := R1.alloc (.cells #[.int .i64 x2, .int .i64 y2] 46)
  have R2 := R2.alloc (.cells #[.int .i64 x2, .int .i64 y2] 46)
  have R3 := R3.alloc (.cells #[.int .i64 x2, .int .i64 y2] 46)
  have B0 := B0.alloc (.cells #[.int .i64 x2, .int .i64 y2] 46)
  have B1 := B1.alloc (.cells #[.int .i64 x2, .int .i64 y2] 46)
  have B2 := Blk.at_ w4 46 #[.int .i64 x2, .int .i64 y2] w4.heap.size rfl
  refine (pick_any (w.heap.size + 1 + 1 + 1 + 1) (0 + 4 + 4 + 4) 6 _ (hr.alloc _) (by omega) (by omega) (by omega)).mono ?_
  rintro e w5 ⟨k, k0, k1, rfl, hr, hg⟩
  have hlt := hr.lt
  have hz := hg.size
  try simp only [World.size_alloc] at hz
  have R0 := R0.kept hg (ne_of (by omega))
  have R1 := R1.kept hg (ne_of (by omega))
  have R2 := R2.kept hg (ne_of (by omega))
  have R3 := R3.kept hg (ne_of (by omega))
  have B0 := B0.kept hg (ne_of (by omega))
  have B1 := B1.kept hg (ne_of (by omega))
  have B2 := B2.kept hg (ne_of (by omega))
  have K : w.grownBy w5 none := kp_rd ((by repeat (first | with_reducible assumption | with_reducible exact gr_refl _ _ | with_reducible refine kp_alloc ?_ _ | ((with_reducible refine kp_set ?_ ?_ _); rotate_left; focus (dsimp only; omega)) | with_reducible refine kp_ex ?_ _ | with_reducible refine kp_drewN ?_ _ | with_reducible refine kp_drew ?_ | with_reducible refine kp_exr ?_ _ | with_reducible refine kp_exr' ?_ _))) hg (by omega)
  clear hg
  go_upto_block 0 with fail
  go_cut [] (fun wx => ∃ x2 y2 : Int, Dr x2 ∧ Dr y2 ∧ Blk wx w4.heap.size 46 #[.int .i64 x2, .int .i64 y2] ∧ Blk wx w2.heap.size 46 #[.int .i64 x0, .int .i64 y0] ∧ Blk wx w3.heap.size 46 #[.int .i64 x1, .int .i64 y1] ∧ Blk wx w.heap.size 46 #[.int .i64 0, .int .i64 0] ∧ Blk wx (w.heap.size + 1) 46 #[.int .i64 0, .int .i64 0] ∧ Blk wx (w.heap.size + 1 + 1) 46 #[.int .i64 0, .int .i64 0] ∧ Blk wx (w.heap.size + 1 + 1 + 1) 46 #[.int .i64 0, .int .i64 0] ∧ Rd wx (w.heap.size + 1 + 1 + 1 + 1) 13 ∧ w.grownBy wx none)
  case first =>
    obtain ⟨c0, c1, f0, f1, _⟩ := two_cells B0
    obtain ⟨c2, c3, f2, f3, _⟩ := two_cells B1
    obtain ⟨c4, c5, f4, f5, _⟩ := two_cells B2
    by_cases hk : k = 0
    · subst hk
      go_wp2_with fail
      go_meet
      exact ⟨x0, y0, by unfold Dr; omega, by unfold Dr; omega, (Blk.set1 (Blk.set0 B2 _) _), (Blk.far (Blk.far B0 (by dsimp only; omega) _) (by dsimp only; omega) _), (Blk.far (Blk.far B1 (by dsimp only; omega) _) (by dsimp only; omega) _), (Blk.far (Blk.far R0 (by dsimp only; omega) _) (by dsimp only; omega) _), (Blk.far (Blk.far R1 (by dsimp only; omega) _) (by dsimp only; omega) _), (Blk.far (Blk.far R2 (by dsimp only; omega) _) (by dsimp only; omega) _), (Blk.far (Blk.far R3 (by dsimp only; omega) _) (by dsimp only; omega) _), (Rd.set (Rd.set (hr.more (by omega)) (by dsimp only; omega) _) (by dsimp only; omega) _), (by repeat (first | with_reducible assumption | with_reducible exact gr_refl _ _ | with_reducible refine kp_alloc ?_ _ | ((with_reducible refine kp_set ?_ ?_ _); rotate_left; focus (dsimp only; omega)) | with_reducible refine kp_ex ?_ _ | with_reducible refine kp_drewN ?_ _ | with_reducible refine kp_drew ?_ | with_reducible refine kp_exr ?_ _ | with_reducible refine kp_exr' ?_ _))⟩
    · have hk' : (k == 0) = false := by simp; omega
      by_cases hk1 : k = 1
      · subst hk1
        go_wp2_with fail
        go_meet
        exact ⟨2 * x1 - x0, 2 * y1 - y0, by unfold Dr; omega, by unfold Dr; omega, (Blk.set1 (Blk.set0 B2 _) _), (Blk.far (Blk.far B0 (by dsimp only; omega) _) (by dsimp only; omega) _), (Blk.far (Blk.far B1 (by dsimp only; omega) _) (by dsimp only; omega) _), (Blk.far (Blk.far R0 (by dsimp only; omega) _) (by dsimp only; omega) _), (Blk.far (Blk.far R1 (by dsimp only; omega) _) (by dsimp only; omega) _), (Blk.far (Blk.far R2 (by dsimp only; omega) _) (by dsimp only; omega) _), (Blk.far (Blk.far R3 (by dsimp only; omega) _) (by dsimp only; omega) _), (Rd.set (Rd.set (hr.more (by omega)) (by dsimp only; omega) _) (by dsimp only; omega) _), (by repeat (first | with_reducible assumption | with_reducible exact gr_refl _ _ | with_reducible refine kp_alloc ?_ _ | ((with_reducible refine kp_set ?_ ?_ _); rotate_left; focus (dsimp only; omega)) | with_reducible refine kp_ex ?_ _ | with_reducible refine kp_drewN ?_ _ | with_reducible refine kp_drew ?_ | with_reducible refine kp_exr ?_ _ | with_reducible refine kp_exr' ?_ _))⟩
      · have hk1' : (k == 1) = false := by simp; omega
        go_wp2_with fail
        go_meet
        exact ⟨x2, y2, by unfold Dr; omega, by unfold Dr; omega, B2, B0, B1, R0, R1, R2, R3, hr.more (by omega), K⟩
  case rest =>
    clear B0 B1 B2 R0 R1 R2 R3 hr K g1 g2 g3 g4
    obtain ⟨x2, y2, dr2, dr2', B2, B0, B1, R0, R1, R2, R3, hr, K⟩ := hcut
    go_wp2_with fail
    have hlt := hr.lt
    refine (pick_any (w.heap.size + 1 + 1 + 1 + 1) 13 3 _ hr (by omega) (by omega) (by omega)).mono ?_
    rintro e w6 ⟨j, j0, j1, rfl, hr, hg⟩
    have hlt := hr.lt
    have hz := hg.size
    try simp only [World.size_alloc] at hz
    have R0 := R0.kept hg (ne_of (by omega))
    have R1 := R1.kept hg (ne_of (by omega))
    have R2 := R2.kept hg (ne_of (by omega))
    have R3 := R3.kept hg (ne_of (by omega))
    have B0 := B0.kept hg (ne_of (by omega))
    have B1 := B1.kept hg (ne_of (by omega))
    have B2 := B2.kept hg (ne_of (by omega))
    have K : w.grownBy w6 none := kp_rd ((by repeat (first | with_reducible assumption | with_reducible exact gr_refl _ _ | with_reducible refine kp_alloc ?_ _ | ((with_reducible refine kp_set ?_ ?_ _); rotate_left; focus (dsimp only; omega)) | with_reducible refine kp_ex ?_ _ | with_reducible refine kp_drewN ?_ _ | with_reducible refine kp_drew ?_ | with_reducible refine kp_exr ?_ _ | with_reducible refine kp_exr' ?_ _))) hg (by omega)
    clear hg
    obtain ⟨c0, c1, f0, f1, _⟩ := two_cells B0
    obtain ⟨c2, c3, f2, f3, _⟩ := two_cells B1
    obtain ⟨c4, c5, f4, f5, _⟩ := two_cells B2
    obtain ⟨d0, d1, e0, e1, _⟩ := two_cells R0
    obtain ⟨d2, d3, e2, e3, _⟩ := two_cells R1
    obtain ⟨d4, d5, e4, e5, _⟩ := two_cells R2
    obtain ⟨d6, d7, e6, e7, _⟩ := two_cells R3
    by_cases hj : j = 0
    · subst hj
      obtain ⟨t1, t2⟩ := tdiv2_bd (x0 + x1) (by omega) (by omega)
      obtain ⟨t3, t4⟩ := tdiv2_bd (y0 + y1) (by omega) (by omega)
      have q0 : IntKind.i64.wrap (x0 + x1) = x0 + x1 := IntWalk.i64_in _ (by omega)
      have q1 : IntKind.i64.wrap ((x0 + x1).tdiv 2) = (x0 + x1).tdiv 2 := IntWalk.i64_in _ (by omega)
      have q2 : IntKind.i64.wrap (y0 + y1) = y0 + y1 := IntWalk.i64_in _ (by omega)
      have q3 : IntKind.i64.wrap ((y0 + y1).tdiv 2) = (y0 + y1).tdiv 2 := IntWalk.i64_in _ (by omega)
      go_wp2_with fail
      go_region_held3 (fun w' => w'.cell? ⟨w2.heap.size, 0, none⟩ = some (.int .i64 x0) ∧ w'.cell? ⟨w2.heap.size, 1, none⟩ = some (.int .i64 y0) ∧ w'.cell? ⟨w3.heap.size, 0, none⟩ = some (.int .i64 x1) ∧ w'.cell? ⟨w3.heap.size, 1, none⟩ = some (.int .i64 y1) ∧ w'.cell? ⟨w4.heap.size, 0, none⟩ = some (.int .i64 x2) ∧ w'.cell? ⟨w4.heap.size, 1, none⟩ = some (.int .i64 y2)) (go_simp) (first | fail)
      go_wp2_with fail
      refine bodyPost_ret (v := .tuple #[.agg #[.int .i64 x0, .int .i64 y0], .agg #[.int .i64 x1, .int .i64 y1], .agg #[.int .i64 x2, .int .i64 y2], .agg #[.int .i64 ((x0 + x1).tdiv 2), .int .i64 ((y0 + y1).tdiv 2)]]) (by simp [results, Try.results58, go_sem, d0, d1, d2, d3, d4, d5, d6, d7]) rfl ?_
      exact ⟨x0, y0, x1, y1, x2, y2, _, _, by unfold Dr; omega, by unfold Dr; omega, by unfold Dr; omega, by unfold Dr; omega, dr2, dr2', by unfold Dr; omega, by unfold Dr; omega, rfl, (by repeat (first | with_reducible assumption | with_reducible exact gr_refl _ _ | with_reducible refine kp_alloc ?_ _ | ((with_reducible refine kp_set ?_ ?_ _); rotate_left; focus (dsimp only; omega)) | with_reducible refine kp_ex ?_ _ | with_reducible refine kp_drewN ?_ _ | with_reducible refine kp_drew ?_ | with_reducible refine kp_exr ?_ _ | with_reducible refine kp_exr' ?_ _))⟩
    · have hj' : (j == 0) = false := by simp; omega
      go_wp2_with fail
      go_region_held3 (fun w' => w'.cell? ⟨w2.heap.size, 0, none⟩ = some (.int .i64 x0) ∧ w'.cell? ⟨w2.heap.size, 1, none⟩ = some (.int .i64 y0) ∧ w'.cell? ⟨w3.heap.size, 0, none⟩ = some (.int .i64 x1) ∧ w'.cell? ⟨w3.heap.size, 1, none⟩ = some (.int .i64 y1) ∧ w'.cell? ⟨w4.heap.size, 0, none⟩ = some (.int .i64 x2) ∧ w'.cell? ⟨w4.heap.size, 1, none⟩ = some (.int .i64 y2)) (go_simp) (first | (go_at_call 88; refine (anyPoint_any (w.heap.size + 1 + 1 + 1 + 1) (13 + 1) _ (by exact Rd_drew hr) (by omega)).mono ?_; rintro e w7 ⟨x3, y3, g5, g6, g7, g8, rfl, hr6, hg6⟩; have K6 : w.grownBy w7 none := kp_rd ((by repeat (first | with_reducible assumption | with_reducible exact gr_refl _ _ | with_reducible refine kp_alloc ?_ _ | ((with_reducible refine kp_set ?_ ?_ _); rotate_left; focus (dsimp only; omega)) | with_reducible refine kp_ex ?_ _ | with_reducible refine kp_drewN ?_ _ | with_reducible refine kp_drew ?_ | with_reducible refine kp_exr ?_ _ | with_reducible refine kp_exr' ?_ _))) hg6 (by omega); have R0 := (Blk.drew R0).kept hg6 (ne_of (by omega)); have R1 := (Blk.drew R1).kept hg6 (ne_of (by omega)); have R2 := (Blk.drew R2).kept hg6 (ne_of (by omega)); have R3 := (Blk.drew R3).kept hg6 (ne_of (by omega)); have B0 := (Blk.drew B0).kept hg6 (ne_of (by omega)); have B1 := (Blk.drew B1).kept hg6 (ne_of (by omega)); have B2 := (Blk.drew B2).kept hg6 (ne_of (by omega)); obtain ⟨c0, c1, f0, f1, _⟩ := two_cells B0; obtain ⟨c2, c3, f2, f3, _⟩ := two_cells B1; obtain ⟨c4, c5, f4, f5, _⟩ := two_cells B2; obtain ⟨d0, d1, e0, e1, _⟩ := two_cells R0; obtain ⟨d2, d3, e2, e3, _⟩ := two_cells R1; obtain ⟨d4, d5, e4, e5, _⟩ := two_cells R2; obtain ⟨d6, d7, e6, e7, _⟩ := two_cells R3))
      go_wp2_with fail
      refine bodyPost_ret (v := .tuple #[.agg #[.int .i64 x0, .int .i64 y0], .agg #[.int .i64 x1, .int .i64 y1], .agg #[.int .i64 x2, .int .i64 y2], .agg #[.int .i64 x3, .int .i64 y3]]) (by simp [results, Try.results58, go_sem, d0, d1, d2, d3, d4, d5, d6, d7]) rfl ?_
      exact ⟨x0, y0, x1, y1, x2, y2, x3, y3, by unfold Dr; omega, by unfold Dr; omega, by unfold Dr; omega, by unfold Dr; omega, dr2, dr2', by unfold Dr; omega, by unfold Dr; omega, rfl, (by repeat (first | with_reducible assumption | with_reducible exact gr_refl _ _ | with_reducible refine kp_alloc ?_ _ | ((with_reducible refine kp_set ?_ ?_ _); rotate_left; focus (dsimp only; omega)) | with_reducible refine kp_ex ?_ _ | with_reducible refine kp_drewN ?_ _ | with_reducible refine kp_drew ?_ | with_reducible refine kp_exr ?_ _ | with_reducible refine kp_exr' ?_ _))⟩
end Go.Proofs.Ytndkhbilefljnaa
