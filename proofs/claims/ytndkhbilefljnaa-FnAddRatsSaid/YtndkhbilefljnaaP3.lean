/- Contracts: circles, distances. -/
import Derived.Test.YtndkhbilefljnaaP2
import Derived.Test.YtndkhbilefljnaaOrd
import Derived.Deep.RegionHeld3
namespace Go.Proofs.Ytndkhbilefljnaa
open Go.RowKit

def dot2 (x y : Int) : Int := x * x + y * y
/-- The determinant of the circle test. -/
def circ (ax ay bx bY cx cy dx dy : Int) : Int :=
  dot2 (ax - dx) (ay - dy) * ((bx - dx) * (cy - dy) - (bY - dy) * (cx - dx)) + dot2 (bx - dx) (bY - dy) * ((cx - dx) * (ay - dy) - (cy - dy) * (ax - dx)) + dot2 (cx - dx) (cy - dy) * ((ax - dx) * (bY - dy) - (ay - dy) * (bx - dx))

theorem tri_bd (a b c d e f : Int) (h1 : -2000 ≤ a) (h2 : a ≤ 2000) (h3 : -2000 ≤ b) (h4 : b ≤ 2000) (h5 : -2000 ≤ c) (h6 : c ≤ 2000) (h7 : -2000 ≤ d) (h8 : d ≤ 2000) (g5 : -2000 ≤ e) (g6 : e ≤ 2000) (g7 : -2000 ≤ f) (g8 : f ≤ 2000) :
    -64000000000000 ≤ (a * a + b * b) * (c * f - d * e) ∧ (a * a + b * b) * (c * f - d * e) ≤ 64000000000000 := by
  have b1 := mul_bd a a 2000 2000 h1 h2 h1 h2
  have b2 := mul_bd b b 2000 2000 h3 h4 h3 h4
  have b3 := mul_bd c f 2000 2000 h5 h6 g7 g8
  have b4 := mul_bd d e 2000 2000 h7 h8 g5 g6
  exact mul_bd (a * a + b * b) (c * f - d * e) 8000000 8000000 (by omega) (by omega) (by omega) (by omega)

set_option maxHeartbeats 1000000 in
theorem iinCircle_any (ax ay bx bY cx cy dx dy : Int) (w : World) (h1 : -1000 ≤ ax) (h2 : ax ≤ 1000) (h3 : -1000 ≤ ay) (h4 : ay ≤ 1000) (g1 : -1000 ≤ bx) (g2 : bx ≤ 1000) (g3 : -1000 ≤ bY) (g4 : bY ≤ 1000)
    (k1 : -1000 ≤ cx) (k2 : cx ≤ 1000) (k3 : -1000 ≤ cy) (k4 : cy ≤ 1000) (m1 : -1000 ≤ dx) (m2 : dx ≤ 1000) (m3 : -1000 ≤ dy) (m4 : dy ≤ 1000) :
    Calls Try.prog 110 #[.agg #[.int .i64 ax, .int .i64 ay], .agg #[.int .i64 bx, .int .i64 bY], .agg #[.int .i64 cx, .int .i64 cy], .agg #[.int .i64 dx, .int .i64 dy]] w
      fun e w' => e = .returned (.int .i64 (sgn (circ ax ay bx bY cx cy dx dy) * sgn (trn ax ay bx bY cx cy))) ∧ w.grownBy w' none := by
  generalize hd : circ ax ay bx bY cx cy dx dy = det
  have HD := hide hd
  clear hd
  have HT := hide fun W => turn_any ax ay bx bY cx cy W (by omega) (by omega) (by omega) (by omega) (by omega) (by omega) (by omega) (by omega) (by omega) (by omega) (by omega) (by omega)
  generalize ht : trn ax ay bx bY cx cy = tt at HT ⊢
  clear ht
  go_enter Try.func110, Try.ntmps110
  go_wp2_with fail
  refine wp_region_new3 9 (t0 := 46) (t1 := 46) (t2 := 46) (z0 := #[.int .i64 0, .int .i64 0]) (z1 := #[.int .i64 0, .int .i64 0]) (z2 := #[.int .i64 0, .int .i64 0]) (by kernel_rfl) (by kernel_rfl) rfl rfl (fun _ _ => by go_simp) rfl rfl (fun _ _ => by go_simp) rfl rfl (fun _ _ => by go_simp) (by simp) (by simp) (by simp) ?_
  simp only [List.take_succ_cons, List.take_zero, List.drop_succ_cons, List.drop_zero]
  repeat (refine wpE_step (fun K hK => ?_); go_simp; first | (refine hK _ ?_; clear hK K) | (apply Exists.intro; refine ⟨fun _ => ?_, hK _ ?_⟩; (go_at_call 131; exact minus_any _ _ _ _ _ (by omega) (by omega) (by omega) (by omega) (by omega) (by omega) (by omega) (by omega)); clear hK K))
  refine wpE_nil ?_
  intro b0 b1 b2 w2 hk l0 h0 l1 h1 l2 h2 n01 n02 n12
  simp only [Act.put, List.setIfInBounds_toArray, List.set_cons_zero, List.set_cons_succ]
  simp only [World.size_alloc] at l0 l1 l2
  have B0 : Blk w2 w.heap.size 46 #[.int .i64 ax, .int .i64 ay] := Blk.kp (((Blk.at_ w _ _ _ rfl).alloc _).alloc _ |>.alloc _) hk
  have B1 : Blk w2 (w.heap.size + 1) 46 #[.int .i64 bx, .int .i64 bY] := Blk.kp (((Blk.at_ _ _ _ _ (by simp)).alloc _).alloc _) hk
  have B2 : Blk w2 (w.heap.size + 1 + 1) 46 #[.int .i64 cx, .int .i64 cy] := Blk.kp ((Blk.at_ _ _ _ _ (by simp)).alloc _) hk
  have K2 : Kp w w2 := kp_trans (by repeat (first | with_reducible assumption | with_reducible exact gr_refl _ _ | with_reducible refine kp_alloc ?_ _ | ((with_reducible refine kp_set ?_ ?_ _); rotate_left; focus (dsimp only; omega)) | with_reducible refine kp_ex ?_ _ | with_reducible refine kp_drewN ?_ _ | with_reducible refine kp_drew ?_ | with_reducible refine kp_exr ?_ _ | with_reducible refine kp_exr' ?_ _)) hk
  clear hk
  obtain ⟨p0, p1, p2, p3, p4⟩ := two_cells h0
  obtain ⟨q0, q1, q2, q3, q4⟩ := two_cells h1
  obtain ⟨r0, r1, r2, r3, r4⟩ := two_cells h2
  have n10 := n01.symm
  have n20 := n02.symm
  have n21 := n12.symm
  go_wp2_with fail
  refine gen_wp (fun w' => Kp w w' ∧ Blk w' w.heap.size 46 #[.int .i64 ax, .int .i64 ay] ∧ Blk w' (w.heap.size + 1) 46 #[.int .i64 bx, .int .i64 bY] ∧ Blk w' (w.heap.size + 1 + 1) 46 #[.int .i64 cx, .int .i64 cy] ∧
    Blk w' b0 46 #[.int .i64 (ax - dx), .int .i64 (ay - dy)] ∧ Blk w' b1 46 #[.int .i64 (bx - dx), .int .i64 (bY - dy)] ∧ Blk w' b2 46 #[.int .i64 (cx - dx), .int .i64 (cy - dy)]) ⟨(by repeat (first | with_reducible assumption | with_reducible exact gr_refl _ _ | with_reducible refine kp_alloc ?_ _ | ((with_reducible refine kp_set ?_ ?_ _); rotate_left; focus (dsimp only; omega)) | with_reducible refine kp_ex ?_ _ | with_reducible refine kp_drewN ?_ _ | with_reducible refine kp_drew ?_ | with_reducible refine kp_exr ?_ _ | with_reducible refine kp_exr' ?_ _)), (Blk.far (Blk.far (Blk.far (Blk.far (Blk.far (Blk.far B0 (by dsimp only; omega) _) (by dsimp only; omega) _) (by dsimp only; omega) _) (by dsimp only; omega) _) (by dsimp only; omega) _) (by dsimp only; omega) _), (Blk.far (Blk.far (Blk.far (Blk.far (Blk.far (Blk.far B1 (by dsimp only; omega) _) (by dsimp only; omega) _) (by dsimp only; omega) _) (by dsimp only; omega) _) (by dsimp only; omega) _) (by dsimp only; omega) _), (Blk.far (Blk.far (Blk.far (Blk.far (Blk.far (Blk.far B2 (by dsimp only; omega) _) (by dsimp only; omega) _) (by dsimp only; omega) _) (by dsimp only; omega) _) (by dsimp only; omega) _) (by dsimp only; omega) _), (Blk.far (Blk.far (Blk.far (Blk.far (Blk.set1 (Blk.set0 h0 _) _) (by dsimp only; omega) _) (by dsimp only; omega) _) (by dsimp only; omega) _) (by dsimp only; omega) _), (Blk.far (Blk.far (Blk.set1 (Blk.set0 (Blk.far (Blk.far h1 (by dsimp only; omega) _) (by dsimp only; omega) _) _) _) (by dsimp only; omega) _) (by dsimp only; omega) _), (Blk.set1 (Blk.set0 (Blk.far (Blk.far (Blk.far (Blk.far h2 (by dsimp only; omega) _) (by dsimp only; omega) _) (by dsimp only; omega) _) (by dsimp only; omega) _) _) _)⟩ ?_
  rintro w3 ⟨K3, C0, C1, C2, D0, D1, D2⟩
  clear p0 p1 p2 p3 p4 q0 q1 q2 q3 q4 r0 r1 r2 r3 r4 B0 B1 B2 K2 h0 h1 h2 n01 n02 n12 n10 n20 n21 l0 l1 l2 w2
  obtain ⟨a0, a1, _, _, a2⟩ := two_cells C0
  obtain ⟨a3, a4, _, _, a5⟩ := two_cells C1
  obtain ⟨a6, a7, _, _, a8⟩ := two_cells C2
  obtain ⟨p0, p1, _, _, p2⟩ := two_cells D0
  obtain ⟨p3, p4, _, _, p5⟩ := two_cells D1
  obtain ⟨p6, p7, _, _, p8⟩ := two_cells D2
  clear C0 C1 C2 D0 D1 D2
  obtain ⟨e1, e2⟩ := tri_bd (ax - dx) (ay - dy) (bx - dx) (bY - dy) (cx - dx) (cy - dy) (by omega) (by omega) (by omega) (by omega) (by omega) (by omega) (by omega) (by omega) (by omega) (by omega) (by omega) (by omega)
  obtain ⟨e3, e4⟩ := tri_bd (bx - dx) (bY - dy) (cx - dx) (cy - dy) (ax - dx) (ay - dy) (by omega) (by omega) (by omega) (by omega) (by omega) (by omega) (by omega) (by omega) (by omega) (by omega) (by omega) (by omega)
  obtain ⟨e5, e6⟩ := tri_bd (cx - dx) (cy - dy) (ax - dx) (ay - dy) (bx - dx) (bY - dy) (by omega) (by omega) (by omega) (by omega) (by omega) (by omega) (by omega) (by omega) (by omega) (by omega) (by omega) (by omega)
  refine wp_region_ext none (by kernel_rfl) (by kernel_rfl) ?_
  repeat (go_big_quiet_step (first | (go_at_call 132; exact ext_call (dot_any _ _ _ _ _ (by omega) (by omega) (by omega) (by omega) (by omega) (by omega) (by omega) (by omega))) | (go_at_call 137; exact ext_call (pcross_any _ _ _ _ _ (by omega) (by omega) (by omega) (by omega) (by omega) (by omega) (by omega) (by omega)))))
  refine wpQuiet_nil ?_
  rintro _ ⟨x, rfl⟩
  have e : ((ax - dx) * (ax - dx) + (ay - dy) * (ay - dy)) * ((bx - dx) * (cy - dy) - (bY - dy) * (cx - dx)) + ((bx - dx) * (bx - dx) + (bY - dy) * (bY - dy)) * ((cx - dx) * (ay - dy) - (cy - dy) * (ax - dx)) + ((cx - dx) * (cx - dx) + (cy - dy) * (cy - dy)) * ((ax - dx) * (bY - dy) - (ay - dy) * (bx - dx)) = det := HD.out
  rw [e]
  clear e e1 e2 e3 e4 e5 e6
  have s1 := sgn_bd det
  have s2 := sgn_bd tt
  obtain ⟨s3, s4⟩ := mul_bd _ _ 1 1 s1.1 s1.2 s2.1 s2.2
  clear s1 s2
  go_wp2_with fail
  refine wp_region_ext none (by kernel_rfl) (by kernel_rfl) ?_
  repeat (go_big_quiet_step (first | (go_at_call 105; exact ext_call (sign_any _ _)) | (go_at_call 106; exact ext_call (HT.out _))))
  refine wpQuiet_nil ?_
  rintro _ ⟨y, rfl⟩
  go_wp2_with fail
  go_ret
  exact ⟨rfl, kp_ex (kp_ex K3 _) _⟩
end Go.Proofs.Ytndkhbilefljnaa
