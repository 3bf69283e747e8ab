/- What the generators draw: segments. -/
import Derived.Test.YtndkhbilefljnaaDr2
import Derived.Test.YtndkhbilefljnaaEq
namespace Go.Proofs.Ytndkhbilefljnaa
open Go.RowKit

theorem four_cells {w : World} {g : Nat} {t : TypeId} {a b c d : Value} (h : Blk w g t #[a, b, c, d]) : w.cell? ⟨g, 0, none⟩ = some a ∧ w.cell? ⟨g, 1, none⟩ = some b ∧ w.cell? ⟨g, 2, none⟩ = some c ∧ w.cell? ⟨g, 3, none⟩ = some d ∧
    w.frozen? ⟨g, 0, none⟩ = false ∧ w.frozen? ⟨g, 1, none⟩ = false ∧ w.frozen? ⟨g, 2, none⟩ = false ∧ w.frozen? ⟨g, 3, none⟩ = false ∧ g < w.heap.size :=
  ⟨h.cell 0, h.cell 1, h.cell 2, h.cell 3, h.frozen 0, h.frozen 1, h.frozen 2, h.frozen 3, h.lt⟩
def RandSeg (rb q : Nat) (w : World) (e : Ending) (w' : World) : Prop :=
  ∃ a b c d : Int, Dr a ∧ Dr b ∧ Dr c ∧ Dr d ∧ e = .returned (.agg #[.int .i64 a, .int .i64 b, .int .i64 c, .int .i64 d]) ∧ Rd w' rb q ∧ w.grownBy w' (some rb)
attribute [local go_sem ↓] run_eql_pt run_neq_pt

theorem kp_step {w v u : World} {rb : Nat} (h : w.grownBy v (some rb)) (hg : v.grownBy u (some rb)) : w.grownBy u (some rb) := kp_same h hg

set_option maxHeartbeats 4000000 in
theorem anySegment_any (rb q : Nat) (w : World) (h : Rd w rb q) (hq : q ≤ 700000) :
    Calls Try.prog 86 #[.pointer (some ⟨rb, 0, none⟩)] w (RandSeg rb (q + 7) w) := by
  have hlt := h.lt
  go_enter Try.func86, Try.ntmps86
  go_wp2_with fail
  refine (anyPoint_any rb q _ (h.alloc _) (by omega)).mono ?_
  rintro e w1 ⟨ax, ay, h1, h2, h3, h4, rfl, hr, hg⟩
  have hz := hg.size
  try simp only [World.size_alloc] at hz
  have K : w.grownBy w1 (some rb) := kp_trans' (World.grownBy_alloc w (.cells #[.int .i64 0, .int .i64 0, .int .i64 0, .int .i64 0] 48) none) hg
  have R := (Blk.new w 48 #[.int .i64 0, .int .i64 0, .int .i64 0, .int .i64 0]).kept hg (ne_of (by omega))
  clear hg
  go_wp2_with fail
  refine (randomPoint_any rb (q + 4) _ hr (by omega)).mono ?_
  rintro e w2 ⟨bx, bY, h5, h6, h7, h8, rfl, hr, hg⟩
  have hz2 := hg.size
  have K : w.grownBy w2 (some rb) := kp_same K hg
  have R := R.kept hg (ne_of (by omega))
  clear hg
  generalize he : eqP ax ay bx bY = e
  have B0 : Blk (w2.alloc (.cells #[.int .i64 ax, .int .i64 ay, .int .i64 bx, .int .i64 bY] 48)) w2.heap.size 48 #[.int .i64 ax, .int .i64 ay, .int .i64 bx, .int .i64 bY] := Blk.new w2 _ _
  have R0 := R.alloc (.cells #[.int .i64 ax, .int .i64 ay, .int .i64 bx, .int .i64 bY] 48)
  obtain ⟨d0, d1, d2, d3, f0, f1, f2, f3, _⟩ := four_cells R0
  cases e with
  | false =>
    go_wp2_with fail
    refine bodyPost_ret (v := .agg #[.int .i64 ax, .int .i64 ay, .int .i64 bx, .int .i64 bY]) (by simp [results, Try.results86, go_sem, d0, d1, d2, d3]) rfl ?_
    exact ⟨ax, ay, bx, bY, by unfold Dr; omega, by unfold Dr; omega, by unfold Dr; omega, by unfold Dr; omega, rfl, Rd.more (Rd.set (Rd.set (Rd.set (Rd.set (Rd.alloc hr _) (by dsimp only; omega) _) (by dsimp only; omega) _) (by dsimp only; omega) _) (by dsimp only; omega) _) (by omega), (by repeat (first | with_reducible assumption | with_reducible exact gr_refl _ _ | with_reducible refine kp_alloc ?_ _ | ((with_reducible refine kp_set ?_ ?_ _); rotate_left; focus (dsimp only; omega)) | with_reducible refine kp_ex ?_ _ | with_reducible refine kp_drewN ?_ _ | with_reducible refine kp_drew ?_ | with_reducible refine kp_exr ?_ _ | with_reducible refine kp_exr' ?_ _))⟩
  | true =>
    go_wp2_with fail
    refine (pick_any rb (q + 4 + 2) 4 _ (hr.alloc _) (by omega) (by omega) (by omega)).mono ?_
    rintro e w3 ⟨k, k0, k1, rfl, hr3, hg⟩
    have hz3 := hg.size
    try simp only [World.size_alloc] at hz3
    have hlt3 := hr3.lt
    have K3 : w.grownBy w3 (some rb) := kp_same (kp_alloc K _) hg
    have R3 := R0.kept hg (ne_of (by omega))
    have B3 := B0.kept hg (ne_of (by omega))
    clear hg B0 R0 d0 d1 d2 d3 f0 f1 f2 f3
    obtain ⟨d0, d1, d2, d3, f0, f1, f2, f3, _⟩ := four_cells R3
    obtain ⟨c0, c1, c2, c3, g0, g1, g2, g3, _⟩ := four_cells B3
    by_cases hk : 0 < k
    · go_wp2_with fail
      refine bodyPost_ret (v := .agg #[.int .i64 ax, .int .i64 ay, .int .i64 (bx + 1), .int .i64 bY]) (by simp [results, Try.results86, go_sem, d0, d1, d2, d3]) rfl ?_
      exact ⟨ax, ay, bx + 1, bY, by unfold Dr; omega, by unfold Dr; omega, by unfold Dr; omega, by unfold Dr; omega, rfl, Rd.more (Rd.set (Rd.set (Rd.set (Rd.set (Rd.set hr3 (by dsimp only; omega) _) (by dsimp only; omega) _) (by dsimp only; omega) _) (by dsimp only; omega) _) (by dsimp only; omega) _) (by omega), (by repeat (first | with_reducible assumption | with_reducible exact gr_refl _ _ | with_reducible refine kp_alloc ?_ _ | ((with_reducible refine kp_set ?_ ?_ _); rotate_left; focus (dsimp only; omega)) | with_reducible refine kp_ex ?_ _ | with_reducible refine kp_drewN ?_ _ | with_reducible refine kp_drew ?_ | with_reducible refine kp_exr ?_ _ | with_reducible refine kp_exr' ?_ _))⟩
    · go_wp2_with fail
      refine bodyPost_ret (v := .agg #[.int .i64 ax, .int .i64 ay, .int .i64 bx, .int .i64 bY]) (by simp [results, Try.results86, go_sem, d0, d1, d2, d3]) rfl ?_
      exact ⟨ax, ay, bx, bY, by unfold Dr; omega, by unfold Dr; omega, by unfold Dr; omega, by unfold Dr; omega, rfl, Rd.more (Rd.set (Rd.set (Rd.set (Rd.set hr3 (by dsimp only; omega) _) (by dsimp only; omega) _) (by dsimp only; omega) _) (by dsimp only; omega) _) (by omega), (by repeat (first | with_reducible assumption | with_reducible exact gr_refl _ _ | with_reducible refine kp_alloc ?_ _ | ((with_reducible refine kp_set ?_ ?_ _); rotate_left; focus (dsimp only; omega)) | with_reducible refine kp_ex ?_ _ | with_reducible refine kp_drewN ?_ _ | with_reducible refine kp_drew ?_ | with_reducible refine kp_exr ?_ _ | with_reducible refine kp_exr' ?_ _))⟩

def DrawsSP (w : World) (e : Ending) (w' : World) : Prop :=
  ∃ a b c d x y : Int, Dr a ∧ Dr b ∧ Dr c ∧ Dr d ∧ Dr x ∧ Dr y ∧ e = .returned (.tuple #[.agg #[.int .i64 a, .int .i64 b, .int .i64 c, .int .i64 d], .agg #[.int .i64 x, .int .i64 y]]) ∧ w.grownBy w' none

set_option maxHeartbeats 4000000 in
theorem drawOnSegment_any (A : Option Addr) (m c : Nat) (w : World) (hc : Code_ w A m c) (hm : m ≤ 1048576) :
    Calls Try.prog 30 #[.slice A m c] w (DrawsSP w) := by
  go_enter Try.func30, Try.ntmps30
  go_wp2_with fail
  have hc' := (hc.alloc (.cells #[.int .i64 0, .int .i64 0, .int .i64 0, .int .i64 0] 48)).alloc (.cells #[.int .i64 0, .int .i64 0] 46)
  refine (newReader_any A m c _ hc'.1 hm (by simpa using hc'.2)).mono ?_
  rintro e w1 ⟨rfl, hr, hg⟩
  have R0 : Blk w1 w.heap.size 48 #[.int .i64 0, .int .i64 0, .int .i64 0, .int .i64 0] := ((Blk.at_ w _ _ _ rfl).alloc _).kp hg
  have R1 : Blk w1 (w.heap.size + 1) 46 #[.int .i64 0, .int .i64 0] := (Blk.at_ _ _ _ _ (by simp)).kp hg
  have K : w.grownBy w1 none := kp_trans (by repeat (first | with_reducible assumption | with_reducible exact gr_refl _ _ | with_reducible refine kp_alloc ?_ _ | ((with_reducible refine kp_set ?_ ?_ _); rotate_left; focus (dsimp only; omega)) | with_reducible refine kp_ex ?_ _ | with_reducible refine kp_drewN ?_ _ | with_reducible refine kp_drew ?_ | with_reducible refine kp_exr ?_ _ | with_reducible refine kp_exr' ?_ _)) hg
  clear hg hc' hc
  simp only [World.size_alloc] at hr
  go_wp2_with fail
  refine (anySegment_any (w.heap.size + 1 + 1) 0 _ hr (by omega)).mono ?_
  rintro e w2 ⟨sa, sb, sc, sd, h1, h2, h3, h4, rfl, hr, hg⟩
  have hlt := hr.lt
  have hz := hg.size
  try simp only [World.size_alloc] at hz
  have R0 := R0.kept hg (ne_of (by omega))
  have R1 := R1.kept hg (ne_of (by omega))
  have K : w.grownBy w2 none := kp_rd ((by repeat (first | with_reducible assumption | with_reducible exact gr_refl _ _ | with_reducible refine kp_alloc ?_ _ | ((with_reducible refine kp_set ?_ ?_ _); rotate_left; focus (dsimp only; omega)) | with_reducible refine kp_ex ?_ _ | with_reducible refine kp_drewN ?_ _ | with_reducible refine kp_drew ?_ | with_reducible refine kp_exr ?_ _ | with_reducible refine kp_exr' ?_ _))) hg (by omega)
  clear hg
  unfold Dr at h1 h2 h3 h4
  go_wp2_with fail
  have R0 := R0.alloc (.cells #[.int .i64 sa, .int .i64 sb, .int .i64 sc, .int .i64 sd] 48)
  have R1 := R1.alloc (.cells #[.int .i64 sa, .int .i64 sb, .int .i64 sc, .int .i64 sd] 48)
  have B0 := Blk.at_ w2 48 #[.int .i64 sa, .int .i64 sb, .int .i64 sc, .int .i64 sd] w2.heap.size rfl
  refine (pick_any (w.heap.size + 1 + 1) (0 + 7) 2 _ (hr.alloc _) (by omega) (by omega) (by omega)).mono ?_
  rintro e w3 ⟨k, k0, k1, rfl, hr, hg⟩
  have hlt := hr.lt
  have hz := hg.size
  try simp only [World.size_alloc] at hz
  have R0 := R0.kept hg (ne_of (by omega))
  have R1 := R1.kept hg (ne_of (by omega))
  have B0 := B0.kept hg (ne_of (by omega))
  have K : w.grownBy w3 none := kp_rd ((by repeat (first | with_reducible assumption | with_reducible exact gr_refl _ _ | with_reducible refine kp_alloc ?_ _ | ((with_reducible refine kp_set ?_ ?_ _); rotate_left; focus (dsimp only; omega)) | with_reducible refine kp_ex ?_ _ | with_reducible refine kp_drewN ?_ _ | with_reducible refine kp_drew ?_ | with_reducible refine kp_exr ?_ _ | with_reducible refine kp_exr' ?_ _))) hg (by omega)
  clear hg
  obtain ⟨c0, c1, c2, c3, f0, f1, f2, f3, _⟩ := four_cells B0
  obtain ⟨d0, d1, d2, d3, e0, e1, e2, e3, _⟩ := four_cells R0
  obtain ⟨d4, d5, e4, e5, _⟩ := two_cells R1
  by_cases hk : k = 0
  · subst hk
    have t1 : -10000 ≤ (sa + sc).tdiv 2 ∧ (sa + sc).tdiv 2 ≤ 10000 := by
      rw [Int.tdiv_eq_ediv, show Int.sign 2 = 1 from rfl]
      split <;> omega
    have t2 : -10000 ≤ (sb + sd).tdiv 2 ∧ (sb + sd).tdiv 2 ≤ 10000 := by
      rw [Int.tdiv_eq_ediv, show Int.sign 2 = 1 from rfl]
      split <;> omega
    have q0 : IntKind.i64.wrap (sa + sc) = sa + sc := IntWalk.i64_in _ (by omega)
    have q1 : IntKind.i64.wrap ((sa + sc).tdiv 2) = (sa + sc).tdiv 2 := IntWalk.i64_in _ (by omega)
    have q2 : IntKind.i64.wrap (sb + sd) = sb + sd := IntWalk.i64_in _ (by omega)
    have q3 : IntKind.i64.wrap ((sb + sd).tdiv 2) = (sb + sd).tdiv 2 := IntWalk.i64_in _ (by omega)
    go_wp2_with fail
    go_region_held3 (fun w' => w'.cell? ⟨w2.heap.size, 0, none⟩ = some (.int .i64 sa) ∧ w'.cell? ⟨w2.heap.size, 1, none⟩ = some (.int .i64 sb) ∧ w'.cell? ⟨w2.heap.size, 2, none⟩ = some (.int .i64 sc) ∧ w'.cell? ⟨w2.heap.size, 3, none⟩ = some (.int .i64 sd)) (go_simp) (first | fail)
    go_wp2_with fail
    refine bodyPost_ret (v := .tuple #[.agg #[.int .i64 sa, .int .i64 sb, .int .i64 sc, .int .i64 sd], .agg #[.int .i64 ((sa + sc).tdiv 2), .int .i64 ((sb + sd).tdiv 2)]]) (by simp [results, Try.results30, go_sem, d0, d1, d2, d3, d4, d5]) rfl ?_
    exact ⟨sa, sb, sc, sd, _, _, h1, h2, h3, h4, t1, t2, rfl, (by repeat (first | with_reducible assumption | with_reducible exact gr_refl _ _ | with_reducible refine kp_alloc ?_ _ | ((with_reducible refine kp_set ?_ ?_ _); rotate_left; focus (dsimp only; omega)) | with_reducible refine kp_ex ?_ _ | with_reducible refine kp_drewN ?_ _ | with_reducible refine kp_drew ?_ | with_reducible refine kp_exr ?_ _ | with_reducible refine kp_exr' ?_ _))⟩
  · have hk' : (k == 0) = false := by simp; omega
    go_wp2_with fail
    go_region_held3 (fun w' => w'.cell? ⟨w2.heap.size, 0, none⟩ = some (.int .i64 sa) ∧ w'.cell? ⟨w2.heap.size, 1, none⟩ = some (.int .i64 sb) ∧ w'.cell? ⟨w2.heap.size, 2, none⟩ = some (.int .i64 sc) ∧ w'.cell? ⟨w2.heap.size, 3, none⟩ = some (.int .i64 sd)) (go_simp) (first | (go_at_call 88; refine (anyPoint_any (w.heap.size + 1 + 1) (0 + 7 + 1) _ (by exact Rd_drew hr) (by omega)).mono ?_; rintro e w4 ⟨x3, y3, g5, g6, g7, g8, rfl, hr6, hg6⟩; have K6 : w.grownBy w4 none := kp_rd ((by repeat (first | with_reducible assumption | with_reducible exact gr_refl _ _ | with_reducible refine kp_alloc ?_ _ | ((with_reducible refine kp_set ?_ ?_ _); rotate_left; focus (dsimp only; omega)) | with_reducible refine kp_ex ?_ _ | with_reducible refine kp_drewN ?_ _ | with_reducible refine kp_drew ?_ | with_reducible refine kp_exr ?_ _ | with_reducible refine kp_exr' ?_ _))) hg6 (by omega); have R0 := (Blk.drew R0).kept hg6 (ne_of (by omega)); have R1 := (Blk.drew R1).kept hg6 (ne_of (by omega)); have B0 := (Blk.drew B0).kept hg6 (ne_of (by omega)); obtain ⟨c0, c1, c2, c3, f0, f1, f2, f3, _⟩ := four_cells B0; obtain ⟨d0, d1, d2, d3, e0, e1, e2, e3, _⟩ := four_cells R0; obtain ⟨d4, d5, e4, e5, _⟩ := two_cells R1))
    go_wp2_with fail
    refine bodyPost_ret (v := .tuple #[.agg #[.int .i64 sa, .int .i64 sb, .int .i64 sc, .int .i64 sd], .agg #[.int .i64 x3, .int .i64 y3]]) (by simp [results, Try.results30, go_sem, d0, d1, d2, d3, d4, d5]) rfl ?_
    exact ⟨sa, sb, sc, sd, x3, y3, h1, h2, h3, h4, by unfold Dr; omega, by unfold Dr; omega, rfl, (by repeat (first | with_reducible assumption | with_reducible exact gr_refl _ _ | with_reducible refine kp_alloc ?_ _ | ((with_reducible refine kp_set ?_ ?_ _); rotate_left; focus (dsimp only; omega)) | with_reducible refine kp_ex ?_ _ | with_reducible refine kp_drewN ?_ _ | with_reducible refine kp_drew ?_ | with_reducible refine kp_exr ?_ _ | with_reducible refine kp_exr' ?_ _))⟩
end Go.Proofs.Ytndkhbilefljnaa
