/- What the generators draw: fractions. -/
import Derived.Test.YtndkhbilefljnaaDr3
import Derived.Test.YtndkhbilefljnaaRt4
namespace Go.Proofs.Ytndkhbilefljnaa
open Go.RowKit
set_option linter.unusedSimpArgs false
set_option linter.unusedVariables false

def Wd (v : Int) : Prop := -200000000000 ≤ v ∧ v ≤ 200000000000
def RandRat (rb q : Nat) (w : World) (e : Ending) (w' : World) : Prop :=
  ∃ n d : Int, Wd n ∧ Wd d ∧ e = .returned (.agg #[.int .i64 n, .int .i64 d]) ∧ Rd w' rb q ∧ w.grownBy w' (some rb)

set_option maxHeartbeats 1000000 in
theorem randomRat_any (rb q : Nat) (w : World) (h : Rd w rb q) (hq : q ≤ 900000) :
    Calls Try.prog 141 #[.pointer (some ⟨rb, 0, none⟩)] w (RandRat rb (q + 2) w) := by
  have hlt := h.lt
  obtain ⟨zz, hzz⟩ : ∃ z : Nat, z = w.heap.size := ⟨_, rfl⟩
  go_enter Try.func141, Try.ntmps141
  go_wp2_with fail
  refine (pick_any rb q 40 _ (h.alloc _) (by omega) (by omega) (by omega)).mono ?_
  rintro e w1 ⟨k, k0, k1, rfl, hr, hg⟩
  have R := (Blk.new w 24 #[.int .i64 0, .int .i64 0]).kept hg (ne_of (by omega))
  have K : w.grownBy w1 (some rb) := kp_trans' (World.grownBy_alloc w (.cells #[.int .i64 0, .int .i64 0] 24) none) hg
  have hz := hg.size
  try simp only [World.size_alloc] at hz
  clear hg
  go_wp2_with fail
  refine (pick_any rb (q + 1) 9 _ hr (by omega) (by omega) (by omega)).mono ?_
  rintro e w2 ⟨k', k0', k1', rfl, hr', hg'⟩
  have K := kp_same K hg'
  have R := R.kept hg' (ne_of (by omega))
  have hz2 := hg'.size
  clear hg' hr
  obtain ⟨b1, b2⟩ := redN_bd (k - 15) (1 + k') 1000 (by omega) (by omega) (by omega)
  obtain ⟨b3, b4⟩ := redD_bd (k - 15) (1 + k') 1000 (by omega) (by omega)
  go_wp2_with fail
  refine (ratio_any (k - 15) (1 + k') w2 (by omega) (by omega) (by omega) (by omega) (by omega)).mono ?_
  rintro e w3 ⟨rfl, hg⟩
  have K := kp_trans K hg
  have R := R.kp hg
  have hr3 := hr'.kp hg
  have hz3 := hg.size
  clear hg hr'
  generalize redN (k - 15) (1 + k') = n at *
  generalize redD (k - 15) (1 + k') = d at *
  obtain ⟨c0, c1, f0, f1, _⟩ := two_cells R
  go_wp2_with fail
  refine bodyPost_ret (v := .agg #[.int .i64 n, .int .i64 d]) (by simp [results, Try.results141, go_sem, c0, c1]) rfl ?_
  exact ⟨n, d, by unfold Wd; omega, by unfold Wd; omega, rfl, by repeat (first | with_reducible assumption | with_reducible refine Rd.alloc ?_ _ | with_reducible refine Rd.drewN ?_ _ | with_reducible refine Rd_drew ?_ | ((with_reducible refine Rd.set ?_ ?_ _); rotate_left; focus (dsimp only; omega))), (by repeat (first | with_reducible assumption | with_reducible exact gr_refl _ _ | with_reducible refine kp_alloc ?_ _ | ((with_reducible refine kp_set ?_ ?_ _); rotate_left; focus (dsimp only; omega)) | with_reducible refine kp_ex ?_ _ | with_reducible refine kp_drewN ?_ _ | with_reducible refine kp_drew ?_ | with_reducible refine kp_exr ?_ _ | with_reducible refine kp_exr' ?_ _))⟩

/-- The list of numbers of length m laid in a block just made. -/
theorem nums3 (w : World) (t : TypeId) (a b c : Int) (Q : Int → Prop) (ha : Q a) (hb : Q b) (hc : Q c) : Nums (w.alloc (.cells #[.int .i64 a, .int .i64 b, .int .i64 c] t)) ⟨w.heap.size, 0, none⟩ 3 Q := by
  intro i hi
  have h := (Blk.new w t #[.int .i64 a, .int .i64 b, .int .i64 c]).cell
  simp only [Nat.zero_add]
  match i, hi with
  | 0, _ => exact ⟨a, ha, h 0⟩
  | 1, _ => exact ⟨b, hb, h 1⟩
  | 2, _ => exact ⟨c, hc, h 2⟩

set_option maxHeartbeats 600000 in
theorem anyRat_any (rb q : Nat) (w : World) (h : Rd w rb q) (hq : q ≤ 800000) :
    Calls Try.prog 125 #[.pointer (some ⟨rb, 0, none⟩)] w (RandRat rb (q + 4) w) := by
  have hlt := h.lt
  go_enter Try.func125, Try.ntmps125
  go_wp2_with fail
  refine (randomRat_any rb q _ (h.kp (World.grownBy_alloc _ _ _)) (by omega)).mono ?_
  rintro e w1 ⟨x, y, hx, hy, rfl, hr, hg⟩
  have hb := (Blk.new w 24 #[.int .i64 0, .int .i64 0]).kept hg (ne_of (by omega))
  have hg0 := kp_trans' (World.grownBy_alloc w (.cells #[.int .i64 0, .int .i64 0] 24) none) hg
  clear hg
  have hlt1 := hg0.size
  have hB := hb.lt
  go_wp2_with fail
  refine (pick_any rb (q + 2) 16 _ (hr.kp (World.grownBy_alloc _ _ _)) (by omega) (by omega) (by omega)).mono ?_
  rintro e w2 ⟨k, k0, k1, rfl, hr', hg'⟩
  have hb2 := (hb.alloc (.cells #[.int .i64 x, .int .i64 y] 24)).kept hg' (ne_of (by omega))
  have hp2 := (Blk.new w1 24 #[.int .i64 x, .int .i64 y]).kept hg' (ne_of (by omega))
  have hg2 := kp_same hg0 (kp_trans' (World.grownBy_alloc w1 (.cells #[.int .i64 x, .int .i64 y] 24) none) hg')
  clear hg' hg0 hb hr
  have z2 := hg2.size
  by_cases e0 : k = 0
  · subst e0
    go_wp2_with fail
    refine (one_any rb (q + 3) w2.heap.size 0 4 4 Wd _ (hr'.alloc _) (by omega) (by omega) (by omega) (by omega) (by simp) (four_nums _ _ _ _ _ _ _ (by unfold Wd; omega) (by unfold Wd; omega) (by unfold Wd; omega) (by unfold Wd; omega))).mono ?_
    rintro e w3 ⟨v, hv, rfl, hr3, hg3⟩
    have hb3 := (hb2.alloc (.cells #[.int .i64 0, .int .i64 (-1), .int .i64 20000001, .int .i64 20000000] 3)).kept hg3 (ne_of (by omega))
    have hp3 := (hp2.alloc (.cells #[.int .i64 0, .int .i64 (-1), .int .i64 20000001, .int .i64 20000000] 3)).kept hg3 (ne_of (by omega))
    obtain ⟨c0, c1, f0, f1, _⟩ := two_cells hb3
    obtain ⟨d0, d1, k0, k1, _⟩ := two_cells hp3
    have K3 := kp_same (kp_alloc hg2 _) hg3
    have hz3 := K3.size
    clear hg3
    go_wp2_with fail
    refine bodyPost_ret (v := .agg #[.int .i64 x, .int .i64 v]) (by simp [results, Try.results125, go_sem, c0, c1]) rfl ?_
    refine ⟨x, v, hx, hv, rfl, ?_, ?_⟩
    · repeat (first | with_reducible assumption | with_reducible refine Rd.alloc ?_ _ | with_reducible refine Rd.drewN ?_ _ | with_reducible refine Rd_drew ?_ | ((with_reducible refine Rd.set ?_ ?_ _); rotate_left; focus (dsimp only; omega)))
    · exact (by repeat (first | with_reducible assumption | with_reducible exact gr_refl _ _ | with_reducible refine kp_alloc ?_ _ | ((with_reducible refine kp_set ?_ ?_ _); rotate_left; focus (dsimp only; omega)) | with_reducible refine kp_ex ?_ _ | with_reducible refine kp_drewN ?_ _ | with_reducible refine kp_drew ?_ | with_reducible refine kp_exr ?_ _ | with_reducible refine kp_exr' ?_ _))
  · have h0 : (k == 0) = false := by simp; omega
    by_cases e1 : k = 1
    · subst e1
      obtain ⟨c0, c1, f0, f1, _⟩ := two_cells hb2
      obtain ⟨d0, d1, g0, g1, _⟩ := two_cells hp2
      go_wp2_with fail
      refine bodyPost_ret (v := .agg #[.int .i64 2, .int .i64 4]) (by simp [results, Try.results125, go_sem, c0, c1]) rfl ?_
      refine ⟨2, 4, by unfold Wd; omega, by unfold Wd; omega, rfl, ?_, ?_⟩
      · refine Rd.more (q := q + 3) ?_ (by omega)
        repeat (first | with_reducible assumption | with_reducible refine Rd.alloc ?_ _ | with_reducible refine Rd.drewN ?_ _ | with_reducible refine Rd_drew ?_ | ((with_reducible refine Rd.set ?_ ?_ _); rotate_left; focus (dsimp only; omega)))
      · exact (by repeat (first | with_reducible assumption | with_reducible exact gr_refl _ _ | with_reducible refine kp_alloc ?_ _ | ((with_reducible refine kp_set ?_ ?_ _); rotate_left; focus (dsimp only; omega)) | with_reducible refine kp_ex ?_ _ | with_reducible refine kp_drewN ?_ _ | with_reducible refine kp_drew ?_ | with_reducible refine kp_exr ?_ _ | with_reducible refine kp_exr' ?_ _))
    · have h1 : (k == 1) = false := by simp; omega
      by_cases e2 : k = 2
      · subst e2
        go_wp2_with fail
        refine (one_any rb (q + 3) w2.heap.size 0 3 3 Wd _ (hr'.alloc _) (by omega) (by omega) (by omega) (by omega) (by simp) (nums3 _ _ _ _ _ _ (by unfold Wd; omega) (by unfold Wd; omega) (by unfold Wd; omega))).mono ?_
        rintro e w3 ⟨v, hv, rfl, hr3, hg3⟩
        have hb3 := (hb2.alloc (.cells #[.int .i64 100000000000, .int .i64 (-100000000000), .int .i64 100000000001] 3)).kept hg3 (ne_of (by omega))
        have hp3 := (hp2.alloc (.cells #[.int .i64 100000000000, .int .i64 (-100000000000), .int .i64 100000000001] 3)).kept hg3 (ne_of (by omega))
        obtain ⟨c0, c1, f0, f1, _⟩ := two_cells hb3
        obtain ⟨d0, d1, k0, k1, _⟩ := two_cells hp3
        have K3 := kp_same (kp_alloc hg2 _) hg3
        have hz3 := K3.size
        clear hg3
        go_wp2_with fail
        refine bodyPost_ret (v := .agg #[.int .i64 v, .int .i64 1]) (by simp [results, Try.results125, go_sem, c0, c1]) rfl ?_
        refine ⟨v, 1, hv, by unfold Wd; omega, rfl, ?_, ?_⟩
        · repeat (first | with_reducible assumption | with_reducible refine Rd.alloc ?_ _ | with_reducible refine Rd.drewN ?_ _ | with_reducible refine Rd_drew ?_ | ((with_reducible refine Rd.set ?_ ?_ _); rotate_left; focus (dsimp only; omega)))
        · exact (by repeat (first | with_reducible assumption | with_reducible exact gr_refl _ _ | with_reducible refine kp_alloc ?_ _ | ((with_reducible refine kp_set ?_ ?_ _); rotate_left; focus (dsimp only; omega)) | with_reducible refine kp_ex ?_ _ | with_reducible refine kp_drewN ?_ _ | with_reducible refine kp_drew ?_ | with_reducible refine kp_exr ?_ _ | with_reducible refine kp_exr' ?_ _))
      · have h2 : (k == 2) = false := by simp; omega
        obtain ⟨c0, c1, f0, f1, _⟩ := two_cells hb2
        obtain ⟨d0, d1, g0, g1, _⟩ := two_cells hp2
        go_wp2_with fail
        refine bodyPost_ret (v := .agg #[.int .i64 x, .int .i64 y]) (by simp [results, Try.results125, go_sem, c0, c1]) rfl ?_
        refine ⟨x, y, hx, hy, rfl, ?_, ?_⟩
        · refine Rd.more (q := q + 3) ?_ (by omega)
          repeat (first | with_reducible assumption | with_reducible refine Rd.alloc ?_ _ | with_reducible refine Rd.drewN ?_ _ | with_reducible refine Rd_drew ?_ | ((with_reducible refine Rd.set ?_ ?_ _); rotate_left; focus (dsimp only; omega)))
        · exact (by repeat (first | with_reducible assumption | with_reducible exact gr_refl _ _ | with_reducible refine kp_alloc ?_ _ | ((with_reducible refine kp_set ?_ ?_ _); rotate_left; focus (dsimp only; omega)) | with_reducible refine kp_ex ?_ _ | with_reducible refine kp_drewN ?_ _ | with_reducible refine kp_drew ?_ | with_reducible refine kp_exr ?_ _ | with_reducible refine kp_exr' ?_ _))

def TwoRats (w : World) (e : Ending) (w' : World) : Prop :=
  ∃ a0 a1 b0 b1 : Int, Wd a0 ∧ Wd a1 ∧ Wd b0 ∧ Wd b1 ∧ e = .returned (.tuple #[.agg #[.int .i64 a0, .int .i64 a1], .agg #[.int .i64 b0, .int .i64 b1]]) ∧ w.grownBy w' none

set_option maxHeartbeats 600000 in
theorem twoRats_any (A : Option Addr) (m c : Nat) (w : World) (hc : Code_ w A m c) (hm : m ≤ 1048576) :
    Calls Try.prog 68 #[.slice A m c] w (TwoRats w) := by
  go_enter Try.func68, Try.ntmps68
  go_wp2_with fail
  have hc' := (hc.alloc (.cells #[.int .i64 0, .int .i64 0] 24)).alloc (.cells #[.int .i64 0, .int .i64 0] 24)
  refine (newReader_any A m c _ hc'.1 hm (by simpa using hc'.2)).mono ?_
  rintro e w1 ⟨rfl, hr, hg⟩
  have R0 : Blk w1 w.heap.size 24 #[.int .i64 0, .int .i64 0] := ((Blk.at_ w _ _ _ rfl).alloc _).kp hg
  have R1 : Blk w1 (w.heap.size + 1) 24 #[.int .i64 0, .int .i64 0] := (Blk.at_ _ _ _ _ (by simp)).kp hg
  have K : w.grownBy w1 none := kp_trans (by repeat (first | with_reducible assumption | with_reducible exact gr_refl _ _ | with_reducible refine kp_alloc ?_ _ | ((with_reducible refine kp_set ?_ ?_ _); rotate_left; focus (dsimp only; omega)) | with_reducible refine kp_ex ?_ _ | with_reducible refine kp_drewN ?_ _ | with_reducible refine kp_drew ?_ | with_reducible refine kp_exr ?_ _ | with_reducible refine kp_exr' ?_ _)) hg
  clear hg hc' hc
  simp only [World.size_alloc] at hr
  go_wp2_with fail
  refine (anyRat_any (w.heap.size + 1 + 1) 0 _ hr (by omega)).mono ?_
  rintro e w2 ⟨x0, y0, h1, h2, rfl, hr, hg⟩
  have hlt := hr.lt
  have hz := hg.size
  try simp only [World.size_alloc] at hz
  have R0 := R0.kept hg (ne_of (by omega))
  have R1 := R1.kept hg (ne_of (by omega))
  have K : w.grownBy w2 none := kp_rd ((by repeat (first | with_reducible assumption | with_reducible exact gr_refl _ _ | with_reducible refine kp_alloc ?_ _ | ((with_reducible refine kp_set ?_ ?_ _); rotate_left; focus (dsimp only; omega)) | with_reducible refine kp_ex ?_ _ | with_reducible refine kp_drewN ?_ _ | with_reducible refine kp_drew ?_ | with_reducible refine kp_exr ?_ _ | with_reducible refine kp_exr' ?_ _))) hg (by omega)
  clear hg
  go_wp2_with fail
  have R0 := R0.alloc (.cells #[.int .i64 x0, .int .i64 y0] 24)
  have R1 := R1.alloc (.cells #[.int .i64 x0, .int .i64 y0] 24)
  have B0 := Blk.at_ w2 24 #[.int .i64 x0, .int .i64 y0] w2.heap.size rfl
  obtain ⟨c0, c1, f0, f1, _⟩ := two_cells B0
  obtain ⟨d0, d1, e0, e1, _⟩ := two_cells R0
  obtain ⟨d2, d3, e2, e3, _⟩ := two_cells R1
  go_region_held3 (fun w' => w'.cell? ⟨w2.heap.size, 0, none⟩ = some (.int .i64 x0) ∧ w'.cell? ⟨w2.heap.size, 1, none⟩ = some (.int .i64 y0)) (go_simp) (first | (go_at_call 125; refine (anyRat_any (w.heap.size + 1 + 1) (0 + 4) _ (by exact Rd_drew (hr.alloc _)) (by omega)).mono ?_; rintro e w3 ⟨x1, y1, h3, h4, rfl, hr3, hg3⟩; have K3 : w.grownBy w3 none := kp_rd ((by repeat (first | with_reducible assumption | with_reducible exact gr_refl _ _ | with_reducible refine kp_alloc ?_ _ | ((with_reducible refine kp_set ?_ ?_ _); rotate_left; focus (dsimp only; omega)) | with_reducible refine kp_ex ?_ _ | with_reducible refine kp_drewN ?_ _ | with_reducible refine kp_drew ?_ | with_reducible refine kp_exr ?_ _ | with_reducible refine kp_exr' ?_ _))) hg3 (by omega); have R0 := (Blk.drew R0).kept hg3 (ne_of (by omega)); have R1 := (Blk.drew R1).kept hg3 (ne_of (by omega)); have B0 := (Blk.drew B0).kept hg3 (ne_of (by omega)); obtain ⟨c0, c1, f0, f1, _⟩ := two_cells B0; obtain ⟨d0, d1, e0, e1, _⟩ := two_cells R0; obtain ⟨d2, d3, e2, e3, _⟩ := two_cells R1))
  go_wp2_with fail
  refine bodyPost_ret (v := .tuple #[.agg #[.int .i64 x0, .int .i64 y0], .agg #[.int .i64 x1, .int .i64 y1]]) (by simp [results, Try.results68, go_sem, d0, d1, d2, d3]) rfl ?_
  exact ⟨x0, y0, x1, y1, h1, h2, h3, h4, rfl, (by repeat (first | with_reducible assumption | with_reducible exact gr_refl _ _ | with_reducible refine kp_alloc ?_ _ | ((with_reducible refine kp_set ?_ ?_ _); rotate_left; focus (dsimp only; omega)) | with_reducible refine kp_ex ?_ _ | with_reducible refine kp_drewN ?_ _ | with_reducible refine kp_drew ?_ | with_reducible refine kp_exr ?_ _ | with_reducible refine kp_exr' ?_ _))⟩

theorem drawAddRats_any (A : Option Addr) (m c : Nat) (w : World) (hc : Code_ w A m c) (hm : m ≤ 1048576) :
    Calls Try.prog 18 #[.slice A m c] w (TwoRats w) := by
  go_enter Try.func18, Try.ntmps18
  go_wp2_with fail
  have hc' := (hc.alloc (.cells #[.int .i64 0, .int .i64 0] 24)).alloc (.cells #[.int .i64 0, .int .i64 0] 24)
  refine (twoRats_any A m c _ hc' hm).mono ?_
  rintro e w1 ⟨x0, y0, x1, y1, h1, h2, h3, h4, rfl, hg⟩
  have R0 : Blk w1 w.heap.size 24 #[.int .i64 0, .int .i64 0] := ((Blk.at_ w _ _ _ rfl).alloc _).kp hg
  have R1 : Blk w1 (w.heap.size + 1) 24 #[.int .i64 0, .int .i64 0] := (Blk.at_ _ _ _ _ (by simp)).kp hg
  have K : w.grownBy w1 none := kp_trans (by repeat (first | with_reducible assumption | with_reducible exact gr_refl _ _ | with_reducible refine kp_alloc ?_ _ | ((with_reducible refine kp_set ?_ ?_ _); rotate_left; focus (dsimp only; omega)) | with_reducible refine kp_ex ?_ _ | with_reducible refine kp_drewN ?_ _ | with_reducible refine kp_drew ?_ | with_reducible refine kp_exr ?_ _ | with_reducible refine kp_exr' ?_ _)) hg
  clear hg
  obtain ⟨d0, d1, e0, e1, _⟩ := two_cells R0
  obtain ⟨d2, d3, e2, e3, _⟩ := two_cells R1
  go_wp2_with fail
  refine bodyPost_ret (v := .tuple #[.agg #[.int .i64 x0, .int .i64 y0], .agg #[.int .i64 x1, .int .i64 y1]]) (by simp [results, Try.results18, go_sem, d0, d1, d2, d3]) rfl ?_
  exact ⟨x0, y0, x1, y1, h1, h2, h3, h4, rfl, (by repeat (first | with_reducible assumption | with_reducible exact gr_refl _ _ | with_reducible refine kp_alloc ?_ _ | ((with_reducible refine kp_set ?_ ?_ _); rotate_left; focus (dsimp only; omega)) | with_reducible refine kp_ex ?_ _ | with_reducible refine kp_drewN ?_ _ | with_reducible refine kp_drew ?_ | with_reducible refine kp_exr ?_ _ | with_reducible refine kp_exr' ?_ _))⟩
theorem drawMulRats_any (A : Option Addr) (m c : Nat) (w : World) (hc : Code_ w A m c) (hm : m ≤ 1048576) :
    Calls Try.prog 15 #[.slice A m c] w (TwoRats w) := by
  go_enter Try.func15, Try.ntmps15
  go_wp2_with fail
  have hc' := (hc.alloc (.cells #[.int .i64 0, .int .i64 0] 24)).alloc (.cells #[.int .i64 0, .int .i64 0] 24)
  refine (twoRats_any A m c _ hc' hm).mono ?_
  rintro e w1 ⟨x0, y0, x1, y1, h1, h2, h3, h4, rfl, hg⟩
  have R0 : Blk w1 w.heap.size 24 #[.int .i64 0, .int .i64 0] := ((Blk.at_ w _ _ _ rfl).alloc _).kp hg
  have R1 : Blk w1 (w.heap.size + 1) 24 #[.int .i64 0, .int .i64 0] := (Blk.at_ _ _ _ _ (by simp)).kp hg
  have K : w.grownBy w1 none := kp_trans (by repeat (first | with_reducible assumption | with_reducible exact gr_refl _ _ | with_reducible refine kp_alloc ?_ _ | ((with_reducible refine kp_set ?_ ?_ _); rotate_left; focus (dsimp only; omega)) | with_reducible refine kp_ex ?_ _ | with_reducible refine kp_drewN ?_ _ | with_reducible refine kp_drew ?_ | with_reducible refine kp_exr ?_ _ | with_reducible refine kp_exr' ?_ _)) hg
  clear hg
  obtain ⟨d0, d1, e0, e1, _⟩ := two_cells R0
  obtain ⟨d2, d3, e2, e3, _⟩ := two_cells R1
  go_wp2_with fail
  refine bodyPost_ret (v := .tuple #[.agg #[.int .i64 x0, .int .i64 y0], .agg #[.int .i64 x1, .int .i64 y1]]) (by simp [results, Try.results15, go_sem, d0, d1, d2, d3]) rfl ?_
  exact ⟨x0, y0, x1, y1, h1, h2, h3, h4, rfl, (by repeat (first | with_reducible assumption | with_reducible exact gr_refl _ _ | with_reducible refine kp_alloc ?_ _ | ((with_reducible refine kp_set ?_ ?_ _); rotate_left; focus (dsimp only; omega)) | with_reducible refine kp_ex ?_ _ | with_reducible refine kp_drewN ?_ _ | with_reducible refine kp_drew ?_ | with_reducible refine kp_exr ?_ _ | with_reducible refine kp_exr' ?_ _))⟩
end Go.Proofs.Ytndkhbilefljnaa
