/- anyPoint and one: contracts. -/
import Derived.Test.YtndkhbilefljnaaRd2
namespace Go.Proofs.Ytndkhbilefljnaa
open Go.RowKit

/-- A slice of m numbers, of each of which Q holds. -/
def Nums (w : World) (A : Addr) (m : Nat) (Q : Int → Prop) : Prop := ∀ i, i < m → ∃ v : Int, Q v ∧ w.cell? ⟨A.block, A.off + i, none⟩ = some (.int .i64 v)
def One (Q : Int → Prop) (rb q : Nat) (w : World) (e : Ending) (w' : World) : Prop := ∃ k : Int, Q k ∧ e = .returned (.int .i64 k) ∧ Rd w' rb (q + 1) ∧ w.grownBy w' (some rb)

theorem one_any (rb q : Nat) (b off m c : Nat) (Q : Int → Prop) (w : World) (h : Rd w rb q) (hq : q ≤ 900000) (hm : 1 ≤ m) (hm' : m ≤ 1000) (hb : rb < b) (hlt : b < w.heap.size) (hn : Nums w ⟨b, off, none⟩ m Q) :
    Calls Try.prog 130 #[.pointer (some ⟨rb, 0, none⟩), .slice (some ⟨b, off, none⟩) m c] w (One Q rb q w) := by
  go_enter Try.func130, Try.ntmps130
  go_wp2_with fail
  refine (pick_any rb q m _ h (by omega) (by omega) (by omega)).mono ?_
  rintro e w1 ⟨k, k0, k1, rfl, hr, hg⟩
  obtain ⟨k, rfl⟩ := Int.eq_ofNat_of_zero_le k0
  obtain ⟨v, hv, hcell⟩ := hn k (by omega)
  have hc := (World.cell?_of_block (a := ⟨b, off + k, none⟩) (hg.block b hlt (fun e => by injection e; omega))).trans hcell
  go_wp2_with fail
  go_ret
  exact ⟨v, hv, rfl, hr, hg⟩

theorem four_nums (w : World) (t : TypeId) (a b c d : Int) (Q : Int → Prop) (ha : Q a) (hb : Q b) (hc : Q c) (hd : Q d) : Nums (w.alloc (.cells #[.int .i64 a, .int .i64 b, .int .i64 c, .int .i64 d] t)) ⟨w.heap.size, 0, none⟩ 4 Q := by
  intro i hi
  have h := (Blk.new w t #[.int .i64 a, .int .i64 b, .int .i64 c, .int .i64 d]).cell
  simp only [Nat.zero_add]
  match i, hi with
  | 0, _ => exact ⟨a, ha, h 0⟩
  | 1, _ => exact ⟨b, hb, h 1⟩
  | 2, _ => exact ⟨c, hc, h 2⟩
  | 3, _ => exact ⟨d, hd, h 3⟩

def Far (v : Int) : Prop := -1001 ≤ v ∧ v ≤ 1001

set_option maxHeartbeats 4000000 in
theorem anyPoint_any (rb q : Nat) (w : World) (h : Rd w rb q) (hq : q ≤ 800000) :
    Calls Try.prog 88 #[.pointer (some ⟨rb, 0, none⟩)] w (RandPt (-1001) 1001 rb (q + 4) w) := by
  have hlt := h.lt
  go_enter Try.func88, Try.ntmps88
  go_wp2_with fail
  refine (randomPoint_any rb q _ (h.kp (World.grownBy_alloc _ _ _)) (by omega)).mono ?_
  rintro e w1 ⟨x, y, x0, x1, y0, y1, rfl, hr, hg⟩
  have hb := (Blk.new w 46 #[.int .i64 0, .int .i64 0]).kept hg (ne_of_lt hlt)
  have hg0 := kp_trans' (World.grownBy_alloc w (.cells #[.int .i64 0, .int .i64 0] 46) none) hg
  clear hg
  have hlt1 := hg0.size
  have hB := hb.lt
  go_wp2_with fail
  refine (pick_any rb (q + 2) 16 _ (hr.kp (World.grownBy_alloc _ _ _)) (by omega) (by omega) (by omega)).mono ?_
  rintro e w2 ⟨k, k0, k1, rfl, hr', hg'⟩
  have hb2 := (hb.alloc (.cells #[.int .i64 x, .int .i64 y] 46)).kept hg' (ne_of_lt hlt)
  have hp2 := (Blk.new w1 46 #[.int .i64 x, .int .i64 y]).kept hg' (ne_of_lt (by omega))
  have hg2 := kp_same hg0 (kp_trans' (World.grownBy_alloc w1 (.cells #[.int .i64 x, .int .i64 y] 46) none) hg')
  clear hg' hg0 hb hr
  have z2 := hg2.size
  by_cases e0 : k = 0
  · subst e0
    go_wp2_with fail
    refine (one_any rb (q + 3) w2.heap.size 0 4 4 Far _ (hr'.alloc _) (by omega) (by omega) (by omega) (by omega) (by simp) (four_nums _ _ _ _ _ _ _ (by unfold Far; omega) (by unfold Far; omega) (by unfold Far; omega) (by unfold Far; omega))).mono ?_
    rintro e w3 ⟨v, ⟨v0, v1⟩, rfl, hr3, hg3⟩
    have hb3 := (hb2.alloc (.cells #[.int .i64 1001, .int .i64 (-1001), .int .i64 1000, .int .i64 (-1000)] 3)).kept hg3 (ne_of_lt hlt)
    have hp3 := (hp2.alloc (.cells #[.int .i64 1001, .int .i64 (-1001), .int .i64 1000, .int .i64 (-1000)] 3)).kept hg3 (ne_of_lt (by omega))
    obtain ⟨c0, c1, f0, f1, _⟩ := two_cells hb3
    obtain ⟨d0, d1, k0, k1, _⟩ := two_cells hp3
    go_wp2_with fail
    refine bodyPost_ret (v := .agg #[.int .i64 v, .int .i64 y]) (by simp [results, Try.results88, go_sem, c0, c1]) rfl ?_
    refine ⟨v, y, by omega, by omega, by omega, by omega, rfl, ?_, ?_⟩
    · repeat (first | assumption | refine Rd.alloc ?_ _ | refine Rd.drewN ?_ _ | refine Rd.set ?_ (by dsimp only; omega) _)
    · repeat (first | exact gr_refl _ _ | assumption | refine kp_alloc ?_ _ | refine kp_drewN ?_ _ | refine kp_set ?_ (by dsimp only; omega) _ | refine kp_trans ?_ (by assumption) | refine kp_same ?_ (by assumption))
  · have h0 : (k == 0) = false := by simp; omega
    by_cases e1 : k = 1
    · subst e1
      go_wp2_with fail
      refine (one_any rb (q + 3) w2.heap.size 0 4 4 Far _ (hr'.alloc _) (by omega) (by omega) (by omega) (by omega) (by simp) (four_nums _ _ _ _ _ _ _ (by unfold Far; omega) (by unfold Far; omega) (by unfold Far; omega) (by unfold Far; omega))).mono ?_
      rintro e w3 ⟨v, ⟨v0, v1⟩, rfl, hr3, hg3⟩
      have hb3 := (hb2.alloc (.cells #[.int .i64 1001, .int .i64 (-1001), .int .i64 1000, .int .i64 (-1000)] 3)).kept hg3 (ne_of_lt hlt)
      have hp3 := (hp2.alloc (.cells #[.int .i64 1001, .int .i64 (-1001), .int .i64 1000, .int .i64 (-1000)] 3)).kept hg3 (ne_of_lt (by omega))
      obtain ⟨c0, c1, f0, f1, _⟩ := two_cells hb3
      obtain ⟨d0, d1, k0, k1, _⟩ := two_cells hp3
      go_wp2_with fail
      refine bodyPost_ret (v := .agg #[.int .i64 x, .int .i64 v]) (by simp [results, Try.results88, go_sem, c0, c1]) rfl ?_
      refine ⟨x, v, by omega, by omega, by omega, by omega, rfl, ?_, ?_⟩
      · repeat (first | assumption | refine Rd.alloc ?_ _ | refine Rd.drewN ?_ _ | refine Rd.set ?_ (by dsimp only; omega) _)
      · repeat (first | exact gr_refl _ _ | assumption | refine kp_alloc ?_ _ | refine kp_drewN ?_ _ | refine kp_set ?_ (by dsimp only; omega) _ | refine kp_trans ?_ (by assumption) | refine kp_same ?_ (by assumption))
    · have h1 : (k == 1) = false := by simp; omega
      obtain ⟨c0, c1, f0, f1, _⟩ := two_cells hb2
      obtain ⟨d0, d1, g0, g1, _⟩ := two_cells hp2
      go_wp2_with fail
      refine bodyPost_ret (v := .agg #[.int .i64 x, .int .i64 y]) (by simp [results, Try.results88, go_sem, c0, c1]) rfl ?_
      refine ⟨x, y, by omega, by omega, by omega, by omega, rfl, ?_, ?_⟩
      · refine Rd.more (q := q + 3) ?_ (by omega)
        repeat (first | assumption | refine Rd.alloc ?_ _ | refine Rd.drewN ?_ _ | refine Rd.set ?_ (by dsimp only; omega) _)
      · repeat (first | exact gr_refl _ _ | assumption | refine kp_alloc ?_ _ | refine kp_drewN ?_ _ | refine kp_set ?_ (by dsimp only; omega) _ | refine kp_trans ?_ (by assumption) | refine kp_same ?_ (by assumption))
end Go.Proofs.Ytndkhbilefljnaa
