/- Graphs: lists of valid and different graphs. -/
import Derived.Test.YtbldachljmhfjaaK50
set_option linter.unusedSimpArgs false
set_option linter.unusedVariables false
set_option maxRecDepth 100000
namespace Go.Proofs.Ytbldachljmhfjaa
open Go.Sym
def gq (X Y : Int → Int) (gx gy k : Int) : Bool := decide (gx = X k) && decide (gy = Y k)
def gok1 (X Y : Int → Int) (i : Int) : Bool := okP (X i) (Y i) && !(decide (0 ≤ fidx (gq X Y (X i) (Y i)) i))
def gok (X Y : Int → Int) (n : Int) : Bool := allB (gok1 X Y) n && decide (n ≤ 8)
theorem gq_iff {X Y : Int → Int} {gx gy k : Int} : gq X Y gx gy k = true ↔ gx = X k ∧ gy = Y k := by unfold gq; simp
theorem gq_no {X Y : Int → Int} {gx gy k : Int} (h : ¬ (gx = X k ∧ gy = Y k)) : gq X Y gx gy k = false := by rw [← Bool.not_eq_true, gq_iff]; exact h
theorem fidx_ge {q : Int → Bool} {n : Int} : 0 ≤ fidx q n ↔ ∃ i, (0 ≤ i ∧ i < n) ∧ q i = true := by
  have h := fidx_neg (q := fun i => !(q i)) (n := n)
  have e : (fun i => !(!(q i))) = q := by funext i; simp
  simp only [Bool.not_not] at h
  rw [← Int.not_lt, h, allB_iff]
  constructor
  · intro hh
    refine Classical.byContradiction fun hc => hh fun i a b => ?_
    cases hq : q i with
    | false => rfl
    | true => exact absurd ⟨i, ⟨a, b⟩, hq⟩ hc
  · rintro ⟨i, ⟨a, b⟩, hq⟩ hh
    have := hh i a b
    rw [hq] at this
    cases this
theorem gok_iff {X Y : Int → Int} {n : Int} : gok X Y n = true ↔ (∀ i, 0 ≤ i → i < n → okP (X i) (Y i) = true ∧ ∀ k, 0 ≤ k → k < i → ¬ (X i = X k ∧ Y i = Y k)) ∧ n ≤ 8 := by
  unfold gok
  rw [Bool.and_eq_true, decide_eq_true_eq, allB_iff]
  have key : ∀ i, gok1 X Y i = true ↔ okP (X i) (Y i) = true ∧ ∀ k, 0 ≤ k → k < i → ¬ (X i = X k ∧ Y i = Y k) := by
    intro i
    unfold gok1
    rw [Bool.and_eq_true, Bool.not_eq_true', decide_eq_false_iff_not, fidx_ge]
    refine and_congr Iff.rfl ⟨fun h k a b e => h ⟨k, ⟨a, b⟩, gq_iff.2 e⟩, ?_⟩
    rintro h ⟨k, ⟨a, b⟩, e⟩
    exact h k a b (gq_iff.1 e)
  constructor
  · exact fun h => ⟨fun i a b => (key i).1 (h.1 i a b), h.2⟩
  · exact fun h => ⟨fun i a b => (key i).2 (h.1 i a b), h.2⟩
theorem gok_no {X Y : Int → Int} {n j : Int} (h0 : 0 ≤ j) (h1 : j < n) (h : gok1 X Y j = false) : gok X Y n = false := by
  rw [← Bool.not_eq_true]
  unfold gok
  rw [Bool.and_eq_true, allB_iff]
  rintro ⟨a, _⟩
  rw [a j h0 h1] at h
  cases h
theorem gok_all {X Y : Int → Int} {n : Int} (h : ∀ i, 0 ≤ i → i < n → gok1 X Y i = true) : n ≤ 8 ↔ gok X Y n = true := by
  unfold gok
  rw [Bool.and_eq_true, decide_eq_true_eq, allB_iff]
  exact ⟨fun a => ⟨h, a⟩, fun a => a.2⟩
theorem gok1_a {X Y : Int → Int} {i : Int} (h : okP (X i) (Y i) = false) : gok1 X Y i = false := by unfold gok1; rw [h]; rfl
theorem gok1_b {X Y : Int → Int} {i : Int} (h : 0 ≤ fidx (gq X Y (X i) (Y i)) i) : gok1 X Y i = false := by unfold gok1; rw [decide_eq_true h, Bool.not_true, Bool.and_false]
theorem gok1_c {X Y : Int → Int} {i k : Int} (h0 : 0 ≤ k) (h1 : k < i) (h : X k = X i ∧ Y k = Y i) : gok1 X Y i = false := gok1_b (fidx_ge.2 ⟨k, ⟨h0, h1⟩, gq_iff.2 ⟨h.1.symm, h.2.symm⟩⟩)
theorem gok1_y {X Y : Int → Int} {i : Int} (h : okP (X i) (Y i) = true) (h2 : fidx (gq X Y (X i) (Y i)) i < 0) : gok1 X Y i = true := by unfold gok1; rw [h, decide_eq_false (by omega)]; rfl
theorem gok1_z {X Y : Int → Int} {i : Int} (h : okP (X i) (Y i) = true) (h2 : ∀ k, 0 ≤ k → k < i → ¬ (X k = X i ∧ Y k = Y i)) : gok1 X Y i = true := gok1_y h (by
  rw [← Int.not_le, fidx_ge]
  rintro ⟨k, ⟨a, b⟩, e⟩
  have := gq_iff.1 e
  exact h2 k a b ⟨this.1.symm, this.2.symm⟩)
theorem i_gvalid (aX : Int) (aY : Int) : RunsTo Try.prog 53 [(.agg [(.int .i64 (.v fun _ => aX) (-9223372036854775808) 9223372036854775807), (.int .i64 (.v fun _ => aY) (-9223372036854775808) 9223372036854775807)])] [] (.bool (.v fun _ => okP aX aY)) [] := by
  refine RunsTo.go env Try.func53 rfl Try.call53 rfl rfl (fun _ _ => (.call (c_i_within aX (-1000) 1000) (.ite (.call (c_i_within aY (-1000) 1000) .ret) .ret))) (G := (((-9223372036854775808) ≤ aX ∧ aX ≤ 9223372036854775807) ∧ ((-9223372036854775808) ≤ aY ∧ aY ≤ 9223372036854775807)) → (True) → (((aX = aX) ∧ ((((-1000) : Int) = (-1000)) ∧ ((1000 : Int) = 1000))) ∧ ((((decide ((-1000) ≤ aX) && decide (aX ≤ 1000)) = true) → (((aY = aY) ∧ ((((-1000) : Int) = (-1000)) ∧ ((1000 : Int) = 1000))) ∧ (((decide ((-1000) ≤ aY) && decide (aY ≤ 1000)) = true) ↔ ((okP aX aY) = true)))) ∧ (((decide ((-1000) ≤ aX) && decide (aX ≤ 1000)) = false) → ((okP aX aY) = false))))) (by kernel_rfl) ?_
  intro h1 h2
  refine ⟨⟨rfl, ⟨rfl, rfl⟩⟩, ?_, ?_⟩
  · intro c1
    refine ⟨⟨rfl, ⟨rfl, rfl⟩⟩, ?_⟩
    -- 1: ((decide ((-1000) ≤ aY) && decide (aY ≤ 1000)) = true) ↔ ((okP aX aY) = true)
    first | omega | rfl | (simp_all [okP]; done) | (simp_all [okP]; omega) | fail
  · intro c2
    -- 2: (okP aX aY) = false
    first | omega | rfl | (simp_all [okP]; done) | (simp_all [okP]; omega) | fail
def c_i_gvalid (aX : Int) (aY : Int) : Cn Try.prog := ⟨_, _, _, _, _, i_gvalid aX aY⟩
theorem s_gvalid (aX : Int) (aY : Int) : RunsTo Try.prog 49 [(.agg [(.int .i64 (.v fun _ => aX) (-9223372036854775808) 9223372036854775807), (.int .i64 (.v fun _ => aY) (-9223372036854775808) 9223372036854775807)])] [] (.bool (.v fun _ => okP aX aY)) [] := by
  refine RunsTo.go env Try.func49 rfl Try.call49 rfl rfl (fun _ _ => (.call (c_s_inRange aX (-1000) 1000) (.ite (.call (c_s_inRange aY (-1000) 1000) .ret) .ret))) (G := (((-9223372036854775808) ≤ aX ∧ aX ≤ 9223372036854775807) ∧ ((-9223372036854775808) ≤ aY ∧ aY ≤ 9223372036854775807)) → (True) → (((aX = aX) ∧ ((((-1000) : Int) = (-1000)) ∧ ((1000 : Int) = 1000))) ∧ ((((decide ((-1000) ≤ aX) && decide (aX ≤ 1000)) = true) → (((aY = aY) ∧ ((((-1000) : Int) = (-1000)) ∧ ((1000 : Int) = 1000))) ∧ (((decide ((-1000) ≤ aY) && decide (aY ≤ 1000)) = true) ↔ ((okP aX aY) = true)))) ∧ (((decide ((-1000) ≤ aX) && decide (aX ≤ 1000)) = false) → ((okP aX aY) = false))))) (by kernel_rfl) ?_
  intro h1 h2
  refine ⟨⟨rfl, ⟨rfl, rfl⟩⟩, ?_, ?_⟩
  · intro c1
    refine ⟨⟨rfl, ⟨rfl, rfl⟩⟩, ?_⟩
    -- 1: ((decide ((-1000) ≤ aY) && decide (aY ≤ 1000)) = true) ↔ ((okP aX aY) = true)
    first | omega | rfl | (simp_all [okP]; done) | (simp_all [okP]; omega) | fail
  · intro c2
    -- 2: (okP aX aY) = false
    first | omega | rfl | (simp_all [okP]; done) | (simp_all [okP]; omega) | fail
def c_s_gvalid (aX : Int) (aY : Int) : Cn Try.prog := ⟨_, _, _, _, _, s_gvalid aX aY⟩
theorem Index_g_q (X : Int → Int) (Y : Int → Int) (n : Int) (gX : Int) (gY : Int) : RunsTo Try.prog 68 [(.sl 0 2 (.lit 0) (.v fun _ => n) 1048576), (.agg [(.int .i64 (.v fun _ => gX) (-9223372036854775808) 9223372036854775807), (.int .i64 (.v fun _ => gY) (-9223372036854775808) 9223372036854775807)])] [some ⟨35, 2, false, (.sym (.v fun _ => n) fun e => [(.int .i64 (.v fun _ => (X (e.den))) (-9223372036854775808) 9223372036854775807), (.int .i64 (.v fun _ => (Y (e.den))) (-9223372036854775808) 9223372036854775807)])⟩] (.int .i64 (.v fun _ => fidx (gq X Y gX gY) n) (-1) 1048576) [some ⟨35, 2, false, (.sym (.v fun _ => n) fun e => [(.int .i64 (.v fun _ => (X (e.den))) (-9223372036854775808) 9223372036854775807), (.int .i64 (.v fun _ => (Y (e.den))) (-9223372036854775808) 9223372036854775807)])⟩] := by
  refine RunsTo.go env Try.func68 rfl Try.call68 rfl rfl (fun _ _ => (.loop [] [0, 1] (Int) (fun x1 => ⟨spl 19 0 [(0, (.sl 0 2 (.lit 0) (.v fun _ => n) 1048576)), (3, (.ptr 1 2 (.lit 0) 0)), (7, (.int .i64 (.v fun _ => n) 0 1048576)), (8, (.int .i64 (.v fun _ => x1) 0 1048576))], [some ⟨35, 2, false, (.sym (.v fun _ => n) fun e => [(.int .i64 (.v fun _ => (X (e.den))) (-9223372036854775808) 9223372036854775807), (.int .i64 (.v fun _ => (Y (e.den))) (-9223372036854775808) 9223372036854775807)])⟩, some ⟨35, 2, true, (.lit [[(.int .i64 (.v fun _ => gX) (-9223372036854775808) 9223372036854775807), (.int .i64 (.v fun _ => gY) (-9223372036854775808) 9223372036854775807)]])⟩], 1⟩) (fun x1 => (0 ≤ x1 ∧ x1 ≤ n) ∧ ∀ i, 0 ≤ i → i < x1 → gq X Y gX gY i = false) (fun x1 => (n - x1).toNat) fun x1 => (.ite (.need (.need (.ite (.out .ret) (.next [0, 1])))) (.out .ret)))) (G := ((0 ≤ n ∧ n ≤ 1048576) ∧ (((-9223372036854775808) ≤ gX ∧ gX ≤ 9223372036854775807) ∧ ((-9223372036854775808) ≤ gY ∧ gY ≤ 9223372036854775807))) → (∀ e8 : E, ((0 ≤ e8.den ∧ e8.den < n) → (((-9223372036854775808) ≤ ((X (e8.den))) ∧ ((X (e8.den))) ≤ 9223372036854775807) ∧ ((-9223372036854775808) ≤ ((Y (e8.den))) ∧ ((Y (e8.den))) ≤ 9223372036854775807)))) → ((∃ y2 : Int, (((0 ≤ y2 ∧ y2 ≤ n) ∧ ∀ i, 0 ≤ i → i < y2 → gq X Y gX gY i = false) ∧ (((n = n) ∧ ((n = n) ∧ ((0 : Int) = y2))) ∧ (((n ≤ n) ∧ (∀ e3 : E, ((0 ≤ e3.den ∧ e3.den < n) → ((((X (e3.den))) = ((X (e3.den)))) ∧ (((Y (e3.den))) = ((Y (e3.den)))))))) ∧ ((gX = gX) ∧ (gY = gY)))))) ∧ (∀ x1 : Int, (((0 ≤ x1 ∧ x1 ≤ n) ∧ ∀ i, 0 ≤ i → i < x1 → gq X Y gX gY i = false) → (((x1 < n) → ((((0 ≤ x1) ∧ (x1 < n))) ∧ ((x1 < n) ∧ (((((gX = ((X (x1)))) ∧ (gY = ((Y (x1)))))) → ((x1 = (fidx (gq X Y gX gY) n)) ∧ ((n ≤ n) ∧ (∀ e4 : E, ((0 ≤ e4.den ∧ e4.den < n) → ((((X (e4.den))) = ((X (e4.den)))) ∧ (((Y (e4.den))) = ((Y (e4.den)))))))))) ∧ ((((gX ≠ ((X (x1)))) ∨ (gY ≠ ((Y (x1)))))) → (∃ y5 : Int, (((0 ≤ y5 ∧ y5 ≤ n) ∧ ∀ i, 0 ≤ i → i < y5 → gq X Y gX gY i = false) ∧ ((((n = n) ∧ ((n = n) ∧ (((x1 + 1) = y5) ∧ ((1 ≤ (x1 + 1) ∧ (x1 + 1) ≤ 1048577) → (0 ≤ y5 ∧ y5 ≤ 1048576))))) ∧ (((n ≤ n) ∧ (∀ e6 : E, ((0 ≤ e6.den ∧ e6.den < n) → ((((X (e6.den))) = ((X (e6.den)))) ∧ (((Y (e6.den))) = ((Y (e6.den)))))))) ∧ ((gX = gX) ∧ (gY = gY)))) ∧ ((n - y5).toNat < (n - x1).toNat))))))))) ∧ ((n ≤ x1) → ((((-1) : Int) = (fidx (gq X Y gX gY) n)) ∧ ((n ≤ n) ∧ (∀ e7 : E, ((0 ≤ e7.den ∧ e7.den < n) → ((((X (e7.den))) = ((X (e7.den)))) ∧ (((Y (e7.den))) = ((Y (e7.den))))))))))))))) (by kernel_rfl) ?_
  intro h1 h2
  have hb := fidx_bd (gq X Y gX gY) h1.1.1
  refine ⟨?_, ?_⟩
  · refine ⟨0, ?_⟩
    try dsimp only
    refine ⟨?_, ?_, ⟨Int.le_refl _, fun _ => fun _ => ⟨rfl, rfl⟩⟩, rfl, rfl⟩
      -- 1: (0 ≤ y2 ∧ y2 ≤ n) ∧ ∀ i, 0 ≤ i → i < y2 → gq X Y gX gY i = false
    · first | omega | rfl | exact (fidx_found I1.1.1 (by omega) (gq_iff.2 (by assumption)) I1.2).symm | exact (fidx_none fun i a b => I1.2 i a (by omega)).symm | exact ⟨by omega, fun i a b => by omega⟩ | (refine ⟨by omega, fun i a b => ?_⟩; by_cases e : i = j; (rw [e]; exact gq_no (by omega)); exact I1.2 i a (by omega)) | fail
    · refine ⟨rfl, rfl, ?_⟩
      -- 2: (0 : Int) = y2
      first | omega | rfl | exact (fidx_found I1.1.1 (by omega) (gq_iff.2 (by assumption)) I1.2).symm | exact (fidx_none fun i a b => I1.2 i a (by omega)).symm | exact ⟨by omega, fun i a b => by omega⟩ | (refine ⟨by omega, fun i a b => ?_⟩; by_cases e : i = j; (rw [e]; exact gq_no (by omega)); exact I1.2 i a (by omega)) | fail
  · intro j
    intro I1
    refine ⟨?_, ?_⟩
    · intro c9
      refine ⟨?_, ?_, ?_, ?_⟩
        -- 3: ((0 ≤ x1) ∧ (x1 < n))
      · first | omega | rfl | exact (fidx_found I1.1.1 (by omega) (gq_iff.2 (by assumption)) I1.2).symm | exact (fidx_none fun i a b => I1.2 i a (by omega)).symm | exact ⟨by omega, fun i a b => by omega⟩ | (refine ⟨by omega, fun i a b => ?_⟩; by_cases e : i = j; (rw [e]; exact gq_no (by omega)); exact I1.2 i a (by omega)) | fail
        -- 4: x1 < n
      · first | omega | rfl | exact (fidx_found I1.1.1 (by omega) (gq_iff.2 (by assumption)) I1.2).symm | exact (fidx_none fun i a b => I1.2 i a (by omega)).symm | exact ⟨by omega, fun i a b => by omega⟩ | (refine ⟨by omega, fun i a b => ?_⟩; by_cases e : i = j; (rw [e]; exact gq_no (by omega)); exact I1.2 i a (by omega)) | fail
      · intro c10
        refine ⟨?_, Int.le_refl _, fun _ => fun _ => ⟨rfl, rfl⟩⟩
        -- 5: x1 = (fidx (gq X Y gX gY) n)
        first | omega | rfl | exact (fidx_found I1.1.1 (by omega) (gq_iff.2 (by assumption)) I1.2).symm | exact (fidx_none fun i a b => I1.2 i a (by omega)).symm | exact ⟨by omega, fun i a b => by omega⟩ | (refine ⟨by omega, fun i a b => ?_⟩; by_cases e : i = j; (rw [e]; exact gq_no (by omega)); exact I1.2 i a (by omega)) | fail
      · intro c11
        refine ⟨j + 1, ?_⟩
        try dsimp only
        refine ⟨?_, ?_, ?_⟩
          -- 6: (0 ≤ y5 ∧ y5 ≤ n) ∧ ∀ i, 0 ≤ i → i < y5 → gq X Y gX gY i = false
        · first | omega | rfl | exact (fidx_found I1.1.1 (by omega) (gq_iff.2 (by assumption)) I1.2).symm | exact (fidx_none fun i a b => I1.2 i a (by omega)).symm | exact ⟨by omega, fun i a b => by omega⟩ | (refine ⟨by omega, fun i a b => ?_⟩; by_cases e : i = j; (rw [e]; exact gq_no (by omega)); exact I1.2 i a (by omega)) | fail
        · refine ⟨?_, ⟨Int.le_refl _, fun _ => fun _ => ⟨rfl, rfl⟩⟩, rfl, rfl⟩
          refine ⟨rfl, rfl, ?_, ?_⟩
            -- 7: (x1 + 1) = y5
          · first | omega | rfl | exact (fidx_found I1.1.1 (by omega) (gq_iff.2 (by assumption)) I1.2).symm | exact (fidx_none fun i a b => I1.2 i a (by omega)).symm | exact ⟨by omega, fun i a b => by omega⟩ | (refine ⟨by omega, fun i a b => ?_⟩; by_cases e : i = j; (rw [e]; exact gq_no (by omega)); exact I1.2 i a (by omega)) | fail
          · intro c12
            -- 8: 0 ≤ y5 ∧ y5 ≤ 1048576
            first | omega | rfl | exact (fidx_found I1.1.1 (by omega) (gq_iff.2 (by assumption)) I1.2).symm | exact (fidx_none fun i a b => I1.2 i a (by omega)).symm | exact ⟨by omega, fun i a b => by omega⟩ | (refine ⟨by omega, fun i a b => ?_⟩; by_cases e : i = j; (rw [e]; exact gq_no (by omega)); exact I1.2 i a (by omega)) | fail
          -- 9: (n - y5).toNat < (n - x1).toNat
        · first | omega | rfl | exact (fidx_found I1.1.1 (by omega) (gq_iff.2 (by assumption)) I1.2).symm | exact (fidx_none fun i a b => I1.2 i a (by omega)).symm | exact ⟨by omega, fun i a b => by omega⟩ | (refine ⟨by omega, fun i a b => ?_⟩; by_cases e : i = j; (rw [e]; exact gq_no (by omega)); exact I1.2 i a (by omega)) | fail
    · intro c13
      refine ⟨?_, Int.le_refl _, fun _ => fun _ => ⟨rfl, rfl⟩⟩
      -- 10: ((-1) : Int) = (fidx (gq X Y gX gY) n)
      first | omega | rfl | exact (fidx_found I1.1.1 (by omega) (gq_iff.2 (by assumption)) I1.2).symm | exact (fidx_none fun i a b => I1.2 i a (by omega)).symm | exact ⟨by omega, fun i a b => by omega⟩ | (refine ⟨by omega, fun i a b => ?_⟩; by_cases e : i = j; (rw [e]; exact gq_no (by omega)); exact I1.2 i a (by omega)) | fail
def c_Index_g_q (X : Int → Int) (Y : Int → Int) (n : Int) (gX : Int) (gY : Int) : Cn Try.prog := ⟨_, _, _, _, _, Index_g_q X Y n gX gY⟩
theorem Contains_g_q (X : Int → Int) (Y : Int → Int) (n : Int) (gX : Int) (gY : Int) : RunsTo Try.prog 54 [(.sl 0 2 (.lit 0) (.v fun _ => n) 1048576), (.agg [(.int .i64 (.v fun _ => gX) (-9223372036854775808) 9223372036854775807), (.int .i64 (.v fun _ => gY) (-9223372036854775808) 9223372036854775807)])] [some ⟨35, 2, false, (.sym (.v fun _ => n) fun e => [(.int .i64 (.v fun _ => (X (e.den))) (-9223372036854775808) 9223372036854775807), (.int .i64 (.v fun _ => (Y (e.den))) (-9223372036854775808) 9223372036854775807)])⟩] (.bool (.v fun _ => decide (0 ≤ fidx (gq X Y gX gY) n))) [some ⟨35, 2, false, (.sym (.v fun _ => n) fun e => [(.int .i64 (.v fun _ => (X (e.den))) (-9223372036854775808) 9223372036854775807), (.int .i64 (.v fun _ => (Y (e.den))) (-9223372036854775808) 9223372036854775807)])⟩] := by
  refine RunsTo.go env Try.func54 rfl Try.call54 rfl rfl (fun _ _ => (.call (c_Index_g_q X Y n gX gY) .ret)) (G := ((0 ≤ n ∧ n ≤ 1048576) ∧ (((-9223372036854775808) ≤ gX ∧ gX ≤ 9223372036854775807) ∧ ((-9223372036854775808) ≤ gY ∧ gY ≤ 9223372036854775807))) → (∀ e3 : E, ((0 ≤ e3.den ∧ e3.den < n) → (((-9223372036854775808) ≤ ((X (e3.den))) ∧ ((X (e3.den))) ≤ 9223372036854775807) ∧ ((-9223372036854775808) ≤ ((Y (e3.den))) ∧ ((Y (e3.den))) ≤ 9223372036854775807)))) → (((n = n) ∧ ((gX = gX) ∧ (gY = gY))) ∧ (((n ≤ n) ∧ (∀ e1 : E, ((0 ≤ e1.den ∧ e1.den < n) → ((((X (e1.den))) = ((X (e1.den)))) ∧ (((Y (e1.den))) = ((Y (e1.den)))))))) ∧ (((0 ≤ (fidx (gq X Y gX gY) n)) ↔ ((decide (0 ≤ fidx (gq X Y gX gY) n)) = true)) ∧ ((n ≤ n) ∧ (∀ e2 : E, ((0 ≤ e2.den ∧ e2.den < n) → ((((X (e2.den))) = ((X (e2.den)))) ∧ (((Y (e2.den))) = ((Y (e2.den)))))))))))) (by kernel_rfl) ?_
  intro h1 h2
  refine ⟨⟨rfl, ⟨rfl, rfl⟩⟩, ⟨Int.le_refl _, fun _ => fun _ => ⟨rfl, rfl⟩⟩, ?_, Int.le_refl _, fun _ => fun _ => ⟨rfl, rfl⟩⟩
  -- 1: (0 ≤ (fidx (gq X Y gX gY) n)) ↔ ((decide (0 ≤ fidx (gq X Y gX gY) n)) = true)
  first | omega | rfl | simp | fail
def c_Contains_g_q (X : Int → Int) (Y : Int → Int) (n : Int) (gX : Int) (gY : Int) : Cn Try.prog := ⟨_, _, _, _, _, Contains_g_q X Y n gX gY⟩
theorem Index_g (X : Int → Int) (Y : Int → Int) (n : Int) (gX : Int) (gY : Int) : RunsTo Try.prog 68 [(.sl 0 2 (.lit 0) (.v fun _ => n) 1048576), (.agg [(.int .i64 (.v fun _ => gX) (-9223372036854775808) 9223372036854775807), (.int .i64 (.v fun _ => gY) (-9223372036854775808) 9223372036854775807)])] [some ⟨35, 2, true, (.sym (.v fun _ => n) fun e => [(.int .i64 (.v fun _ => (X (e.den))) (-9223372036854775808) 9223372036854775807), (.int .i64 (.v fun _ => (Y (e.den))) (-9223372036854775808) 9223372036854775807)])⟩] (.int .i64 (.v fun _ => fidx (gq X Y gX gY) n) (-1) 1048576) [some ⟨35, 2, true, (.sym (.v fun _ => n) fun e => [(.int .i64 (.v fun _ => (X (e.den))) (-9223372036854775808) 9223372036854775807), (.int .i64 (.v fun _ => (Y (e.den))) (-9223372036854775808) 9223372036854775807)])⟩] := by
  refine RunsTo.go env Try.func68 rfl Try.call68 rfl rfl (fun _ _ => (.loop [] [0, 1] (Int) (fun x1 => ⟨spl 19 0 [(0, (.sl 0 2 (.lit 0) (.v fun _ => n) 1048576)), (3, (.ptr 1 2 (.lit 0) 0)), (7, (.int .i64 (.v fun _ => n) 0 1048576)), (8, (.int .i64 (.v fun _ => x1) 0 1048576))], [some ⟨35, 2, true, (.sym (.v fun _ => n) fun e => [(.int .i64 (.v fun _ => (X (e.den))) (-9223372036854775808) 9223372036854775807), (.int .i64 (.v fun _ => (Y (e.den))) (-9223372036854775808) 9223372036854775807)])⟩, some ⟨35, 2, true, (.lit [[(.int .i64 (.v fun _ => gX) (-9223372036854775808) 9223372036854775807), (.int .i64 (.v fun _ => gY) (-9223372036854775808) 9223372036854775807)]])⟩], 1⟩) (fun x1 => (0 ≤ x1 ∧ x1 ≤ n) ∧ ∀ i, 0 ≤ i → i < x1 → gq X Y gX gY i = false) (fun x1 => (n - x1).toNat) fun x1 => (.ite (.need (.need (.ite (.out .ret) (.next [0, 1])))) (.out .ret)))) (G := ((0 ≤ n ∧ n ≤ 1048576) ∧ (((-9223372036854775808) ≤ gX ∧ gX ≤ 9223372036854775807) ∧ ((-9223372036854775808) ≤ gY ∧ gY ≤ 9223372036854775807))) → (∀ e8 : E, ((0 ≤ e8.den ∧ e8.den < n) → (((-9223372036854775808) ≤ ((X (e8.den))) ∧ ((X (e8.den))) ≤ 9223372036854775807) ∧ ((-9223372036854775808) ≤ ((Y (e8.den))) ∧ ((Y (e8.den))) ≤ 9223372036854775807)))) → ((∃ y2 : Int, (((0 ≤ y2 ∧ y2 ≤ n) ∧ ∀ i, 0 ≤ i → i < y2 → gq X Y gX gY i = false) ∧ (((n = n) ∧ ((n = n) ∧ ((0 : Int) = y2))) ∧ (((n ≤ n) ∧ (∀ e3 : E, ((0 ≤ e3.den ∧ e3.den < n) → ((((X (e3.den))) = ((X (e3.den)))) ∧ (((Y (e3.den))) = ((Y (e3.den)))))))) ∧ ((gX = gX) ∧ (gY = gY)))))) ∧ (∀ x1 : Int, (((0 ≤ x1 ∧ x1 ≤ n) ∧ ∀ i, 0 ≤ i → i < x1 → gq X Y gX gY i = false) → (((x1 < n) → ((((0 ≤ x1) ∧ (x1 < n))) ∧ ((x1 < n) ∧ (((((gX = ((X (x1)))) ∧ (gY = ((Y (x1)))))) → ((x1 = (fidx (gq X Y gX gY) n)) ∧ ((n ≤ n) ∧ (∀ e4 : E, ((0 ≤ e4.den ∧ e4.den < n) → ((((X (e4.den))) = ((X (e4.den)))) ∧ (((Y (e4.den))) = ((Y (e4.den)))))))))) ∧ ((((gX ≠ ((X (x1)))) ∨ (gY ≠ ((Y (x1)))))) → (∃ y5 : Int, (((0 ≤ y5 ∧ y5 ≤ n) ∧ ∀ i, 0 ≤ i → i < y5 → gq X Y gX gY i = false) ∧ ((((n = n) ∧ ((n = n) ∧ (((x1 + 1) = y5) ∧ ((1 ≤ (x1 + 1) ∧ (x1 + 1) ≤ 1048577) → (0 ≤ y5 ∧ y5 ≤ 1048576))))) ∧ (((n ≤ n) ∧ (∀ e6 : E, ((0 ≤ e6.den ∧ e6.den < n) → ((((X (e6.den))) = ((X (e6.den)))) ∧ (((Y (e6.den))) = ((Y (e6.den)))))))) ∧ ((gX = gX) ∧ (gY = gY)))) ∧ ((n - y5).toNat < (n - x1).toNat))))))))) ∧ ((n ≤ x1) → ((((-1) : Int) = (fidx (gq X Y gX gY) n)) ∧ ((n ≤ n) ∧ (∀ e7 : E, ((0 ≤ e7.den ∧ e7.den < n) → ((((X (e7.den))) = ((X (e7.den)))) ∧ (((Y (e7.den))) = ((Y (e7.den))))))))))))))) (by kernel_rfl) ?_
  intro h1 h2
  have hb := fidx_bd (gq X Y gX gY) h1.1.1
  refine ⟨?_, ?_⟩
  · refine ⟨0, ?_⟩
    try dsimp only
    refine ⟨?_, ?_, ⟨Int.le_refl _, fun _ => fun _ => ⟨rfl, rfl⟩⟩, rfl, rfl⟩
      -- 1: (0 ≤ y2 ∧ y2 ≤ n) ∧ ∀ i, 0 ≤ i → i < y2 → gq X Y gX gY i = false
    · first | omega | rfl | exact (fidx_found I1.1.1 (by omega) (gq_iff.2 (by assumption)) I1.2).symm | exact (fidx_none fun i a b => I1.2 i a (by omega)).symm | exact ⟨by omega, fun i a b => by omega⟩ | (refine ⟨by omega, fun i a b => ?_⟩; by_cases e : i = j; (rw [e]; exact gq_no (by omega)); exact I1.2 i a (by omega)) | fail
    · refine ⟨rfl, rfl, ?_⟩
      -- 2: (0 : Int) = y2
      first | omega | rfl | exact (fidx_found I1.1.1 (by omega) (gq_iff.2 (by assumption)) I1.2).symm | exact (fidx_none fun i a b => I1.2 i a (by omega)).symm | exact ⟨by omega, fun i a b => by omega⟩ | (refine ⟨by omega, fun i a b => ?_⟩; by_cases e : i = j; (rw [e]; exact gq_no (by omega)); exact I1.2 i a (by omega)) | fail
  · intro j
    intro I1
    refine ⟨?_, ?_⟩
    · intro c9
      refine ⟨?_, ?_, ?_, ?_⟩
        -- 3: ((0 ≤ x1) ∧ (x1 < n))
      · first | omega | rfl | exact (fidx_found I1.1.1 (by omega) (gq_iff.2 (by assumption)) I1.2).symm | exact (fidx_none fun i a b => I1.2 i a (by omega)).symm | exact ⟨by omega, fun i a b => by omega⟩ | (refine ⟨by omega, fun i a b => ?_⟩; by_cases e : i = j; (rw [e]; exact gq_no (by omega)); exact I1.2 i a (by omega)) | fail
        -- 4: x1 < n
      · first | omega | rfl | exact (fidx_found I1.1.1 (by omega) (gq_iff.2 (by assumption)) I1.2).symm | exact (fidx_none fun i a b => I1.2 i a (by omega)).symm | exact ⟨by omega, fun i a b => by omega⟩ | (refine ⟨by omega, fun i a b => ?_⟩; by_cases e : i = j; (rw [e]; exact gq_no (by omega)); exact I1.2 i a (by omega)) | fail
      · intro c10
        refine ⟨?_, Int.le_refl _, fun _ => fun _ => ⟨rfl, rfl⟩⟩
        -- 5: x1 = (fidx (gq X Y gX gY) n)
        first | omega | rfl | exact (fidx_found I1.1.1 (by omega) (gq_iff.2 (by assumption)) I1.2).symm | exact (fidx_none fun i a b => I1.2 i a (by omega)).symm | exact ⟨by omega, fun i a b => by omega⟩ | (refine ⟨by omega, fun i a b => ?_⟩; by_cases e : i = j; (rw [e]; exact gq_no (by omega)); exact I1.2 i a (by omega)) | fail
      · intro c11
        refine ⟨j + 1, ?_⟩
        try dsimp only
        refine ⟨?_, ?_, ?_⟩
          -- 6: (0 ≤ y5 ∧ y5 ≤ n) ∧ ∀ i, 0 ≤ i → i < y5 → gq X Y gX gY i = false
        · first | omega | rfl | exact (fidx_found I1.1.1 (by omega) (gq_iff.2 (by assumption)) I1.2).symm | exact (fidx_none fun i a b => I1.2 i a (by omega)).symm | exact ⟨by omega, fun i a b => by omega⟩ | (refine ⟨by omega, fun i a b => ?_⟩; by_cases e : i = j; (rw [e]; exact gq_no (by omega)); exact I1.2 i a (by omega)) | fail
        · refine ⟨?_, ⟨Int.le_refl _, fun _ => fun _ => ⟨rfl, rfl⟩⟩, rfl, rfl⟩
          refine ⟨rfl, rfl, ?_, ?_⟩
            -- 7: (x1 + 1) = y5
          · first | omega | rfl | exact (fidx_found I1.1.1 (by omega) (gq_iff.2 (by assumption)) I1.2).symm | exact (fidx_none fun i a b => I1.2 i a (by omega)).symm | exact ⟨by omega, fun i a b => by omega⟩ | (refine ⟨by omega, fun i a b => ?_⟩; by_cases e : i = j; (rw [e]; exact gq_no (by omega)); exact I1.2 i a (by omega)) | fail
          · intro c12
            -- 8: 0 ≤ y5 ∧ y5 ≤ 1048576
            first | omega | rfl | exact (fidx_found I1.1.1 (by omega) (gq_iff.2 (by assumption)) I1.2).symm | exact (fidx_none fun i a b => I1.2 i a (by omega)).symm | exact ⟨by omega, fun i a b => by omega⟩ | (refine ⟨by omega, fun i a b => ?_⟩; by_cases e : i = j; (rw [e]; exact gq_no (by omega)); exact I1.2 i a (by omega)) | fail
          -- 9: (n - y5).toNat < (n - x1).toNat
        · first | omega | rfl | exact (fidx_found I1.1.1 (by omega) (gq_iff.2 (by assumption)) I1.2).symm | exact (fidx_none fun i a b => I1.2 i a (by omega)).symm | exact ⟨by omega, fun i a b => by omega⟩ | (refine ⟨by omega, fun i a b => ?_⟩; by_cases e : i = j; (rw [e]; exact gq_no (by omega)); exact I1.2 i a (by omega)) | fail
    · intro c13
      refine ⟨?_, Int.le_refl _, fun _ => fun _ => ⟨rfl, rfl⟩⟩
      -- 10: ((-1) : Int) = (fidx (gq X Y gX gY) n)
      first | omega | rfl | exact (fidx_found I1.1.1 (by omega) (gq_iff.2 (by assumption)) I1.2).symm | exact (fidx_none fun i a b => I1.2 i a (by omega)).symm | exact ⟨by omega, fun i a b => by omega⟩ | (refine ⟨by omega, fun i a b => ?_⟩; by_cases e : i = j; (rw [e]; exact gq_no (by omega)); exact I1.2 i a (by omega)) | fail
def c_Index_g (X : Int → Int) (Y : Int → Int) (n : Int) (gX : Int) (gY : Int) : Cn Try.prog := ⟨_, _, _, _, _, Index_g X Y n gX gY⟩
theorem Contains_g (X : Int → Int) (Y : Int → Int) (n : Int) (gX : Int) (gY : Int) : RunsTo Try.prog 54 [(.sl 0 2 (.lit 0) (.v fun _ => n) 1048576), (.agg [(.int .i64 (.v fun _ => gX) (-9223372036854775808) 9223372036854775807), (.int .i64 (.v fun _ => gY) (-9223372036854775808) 9223372036854775807)])] [some ⟨35, 2, true, (.sym (.v fun _ => n) fun e => [(.int .i64 (.v fun _ => (X (e.den))) (-9223372036854775808) 9223372036854775807), (.int .i64 (.v fun _ => (Y (e.den))) (-9223372036854775808) 9223372036854775807)])⟩] (.bool (.v fun _ => decide (0 ≤ fidx (gq X Y gX gY) n))) [some ⟨35, 2, true, (.sym (.v fun _ => n) fun e => [(.int .i64 (.v fun _ => (X (e.den))) (-9223372036854775808) 9223372036854775807), (.int .i64 (.v fun _ => (Y (e.den))) (-9223372036854775808) 9223372036854775807)])⟩] := by
  refine RunsTo.go env Try.func54 rfl Try.call54 rfl rfl (fun _ _ => (.call (c_Index_g X Y n gX gY) .ret)) (G := ((0 ≤ n ∧ n ≤ 1048576) ∧ (((-9223372036854775808) ≤ gX ∧ gX ≤ 9223372036854775807) ∧ ((-9223372036854775808) ≤ gY ∧ gY ≤ 9223372036854775807))) → (∀ e3 : E, ((0 ≤ e3.den ∧ e3.den < n) → (((-9223372036854775808) ≤ ((X (e3.den))) ∧ ((X (e3.den))) ≤ 9223372036854775807) ∧ ((-9223372036854775808) ≤ ((Y (e3.den))) ∧ ((Y (e3.den))) ≤ 9223372036854775807)))) → (((n = n) ∧ ((gX = gX) ∧ (gY = gY))) ∧ (((n ≤ n) ∧ (∀ e1 : E, ((0 ≤ e1.den ∧ e1.den < n) → ((((X (e1.den))) = ((X (e1.den)))) ∧ (((Y (e1.den))) = ((Y (e1.den)))))))) ∧ (((0 ≤ (fidx (gq X Y gX gY) n)) ↔ ((decide (0 ≤ fidx (gq X Y gX gY) n)) = true)) ∧ ((n ≤ n) ∧ (∀ e2 : E, ((0 ≤ e2.den ∧ e2.den < n) → ((((X (e2.den))) = ((X (e2.den)))) ∧ (((Y (e2.den))) = ((Y (e2.den)))))))))))) (by kernel_rfl) ?_
  intro h1 h2
  refine ⟨⟨rfl, ⟨rfl, rfl⟩⟩, ⟨Int.le_refl _, fun _ => fun _ => ⟨rfl, rfl⟩⟩, ?_, Int.le_refl _, fun _ => fun _ => ⟨rfl, rfl⟩⟩
  -- 1: (0 ≤ (fidx (gq X Y gX gY) n)) ↔ ((decide (0 ≤ fidx (gq X Y gX gY) n)) = true)
  first | omega | rfl | simp | fail
def c_Contains_g (X : Int → Int) (Y : Int → Int) (n : Int) (gX : Int) (gY : Int) : Cn Try.prog := ⟨_, _, _, _, _, Contains_g X Y n gX gY⟩
theorem Contains_part (X : Int → Int) (Y : Int → Int) (n : Int) (gX : Int) (gY : Int) (s : Int) (N : Int) (hp : (s + n : Int) ≤ N) : RunsTo Try.prog 54 [(.sl 0 2 (.v fun _ => s) (.v fun _ => n) 1048576), (.agg [(.int .i64 (.v fun _ => gX) (-9223372036854775808) 9223372036854775807), (.int .i64 (.v fun _ => gY) (-9223372036854775808) 9223372036854775807)])] [some ⟨35, 2, true, (.sym (.v fun _ => N) fun e => [(.int .i64 (.v fun _ => (X (e.den))) (-9223372036854775808) 9223372036854775807), (.int .i64 (.v fun _ => (Y (e.den))) (-9223372036854775808) 9223372036854775807)])⟩] (.bool (.v fun _ => decide (0 ≤ fidx (gq (fun i => X (s + i)) (fun i => Y (s + i)) gX gY) n))) [some ⟨35, 2, true, (.sym (.v fun _ => N) fun e => [(.int .i64 (.v fun _ => (X (e.den))) (-9223372036854775808) 9223372036854775807), (.int .i64 (.v fun _ => (Y (e.den))) (-9223372036854775808) 9223372036854775807)])⟩] := RunsTo.part (Contains_g_q (fun i => X (s + i)) (fun i => Y (s + i)) n gX gY) (fun _ _ _ h => h) (fun _ _ _ h => h) hp (fun _ _ e vs _ _ h => h)
def c_Contains_part (X : Int → Int) (Y : Int → Int) (n : Int) (gX : Int) (gY : Int) (s : Int) (N : Int) : CnH Try.prog := ⟨_, _, _, _, _, _, Contains_part X Y n gX gY s N⟩
theorem Contains_partq (X : Int → Int) (Y : Int → Int) (n : Int) (gX : Int) (gY : Int) (s : Int) (N : Int) (hp : (s + n : Int) ≤ N) : RunsTo Try.prog 54 [(.sl 0 2 (.v fun _ => s) (.v fun _ => n) 1048576), (.agg [(.int .i64 (.v fun _ => gX) (-9223372036854775808) 9223372036854775807), (.int .i64 (.v fun _ => gY) (-9223372036854775808) 9223372036854775807)])] [some ⟨35, 2, false, (.sym (.v fun _ => N) fun e => [(.int .i64 (.v fun _ => (X (e.den))) (-9223372036854775808) 9223372036854775807), (.int .i64 (.v fun _ => (Y (e.den))) (-9223372036854775808) 9223372036854775807)])⟩] (.bool (.v fun _ => decide (0 ≤ fidx (gq (fun i => X (s + i)) (fun i => Y (s + i)) gX gY) n))) [some ⟨35, 2, false, (.sym (.v fun _ => N) fun e => [(.int .i64 (.v fun _ => (X (e.den))) (-9223372036854775808) 9223372036854775807), (.int .i64 (.v fun _ => (Y (e.den))) (-9223372036854775808) 9223372036854775807)])⟩] := RunsTo.part (Contains_g_q (fun i => X (s + i)) (fun i => Y (s + i)) n gX gY) (fun _ _ _ h => h) (fun _ _ _ h => h) hp (fun _ _ e vs _ _ h => h)
def c_Contains_partq (X : Int → Int) (Y : Int → Int) (n : Int) (gX : Int) (gY : Int) (s : Int) (N : Int) : CnH Try.prog := ⟨_, _, _, _, _, _, Contains_partq X Y n gX gY s N⟩
theorem fidx_zero {X Y : Int → Int} {gX gY n : Int} : fidx (gq (fun i => X (0 + i)) (fun i => Y (0 + i)) gX gY) n = fidx (gq X Y gX gY) n := by
  have e : gq (fun i => X (0 + i)) (fun i => Y (0 + i)) gX gY = gq X Y gX gY := by
    funext k
    show (decide (gX = X (0 + k)) && decide (gY = Y (0 + k))) = (decide (gX = X k) && decide (gY = Y k))
    rw [Int.zero_add]
  rw [e]
theorem i_graphsOk_q (X : Int → Int) (Y : Int → Int) (n : Int) : RunsTo Try.prog 27 [(.sl 0 2 (.lit 0) (.v fun _ => n) 1048576)] [some ⟨35, 2, false, (.sym (.v fun _ => n) fun e => [(.int .i64 (.v fun _ => (X (e.den))) (-9223372036854775808) 9223372036854775807), (.int .i64 (.v fun _ => (Y (e.den))) (-9223372036854775808) 9223372036854775807)])⟩] (.bool (.v fun _ => gok X Y n)) [some ⟨35, 2, false, (.sym (.v fun _ => n) fun e => [(.int .i64 (.v fun _ => (X (e.den))) (-9223372036854775808) 9223372036854775807), (.int .i64 (.v fun _ => (Y (e.den))) (-9223372036854775808) 9223372036854775807)])⟩] := by
  refine RunsTo.go env Try.func27 rfl Try.call27 rfl rfl (fun _ _ => (.loop [] [0] (Int) (fun x1 => ⟨spl 26 0 [(0, (.sl 0 2 (.lit 0) (.v fun _ => n) 1048576)), (5, (.sl 0 2 (.lit 0) (.v fun _ => n) 1048576)), (6, (.int .i64 (.v fun _ => n) 0 1048576)), (7, (.int .i64 (.v fun _ => x1) 0 1048576))], [some ⟨35, 2, false, (.sym (.v fun _ => n) fun e => [(.int .i64 (.v fun _ => (X (e.den))) (-9223372036854775808) 9223372036854775807), (.int .i64 (.v fun _ => (Y (e.den))) (-9223372036854775808) 9223372036854775807)])⟩], 1⟩) (fun x1 => (0 ≤ x1 ∧ x1 ≤ n) ∧ ∀ i, 0 ≤ i → i < x1 → gok1 X Y i = true) (fun x1 => (n - x1).toNat) fun x1 => (.ite (.need (.need (.call (c_i_gvalid ((X (x1))) ((Y (x1)))) (.ite (.out .ret) (.need (.callH (c_Contains_partq X Y x1 ((X (x1))) ((Y (x1))) 0 n) (.ite (.out .ret) (.next [0])))))))) (.out .ret)))) (G := (0 ≤ n ∧ n ≤ 1048576) → (∀ e10 : E, ((0 ≤ e10.den ∧ e10.den < n) → (((-9223372036854775808) ≤ ((X (e10.den))) ∧ ((X (e10.den))) ≤ 9223372036854775807) ∧ ((-9223372036854775808) ≤ ((Y (e10.den))) ∧ ((Y (e10.den))) ≤ 9223372036854775807)))) → ((∃ y2 : Int, (((0 ≤ y2 ∧ y2 ≤ n) ∧ ∀ i, 0 ≤ i → i < y2 → gok1 X Y i = true) ∧ (((n = n) ∧ ((n = n) ∧ ((n = n) ∧ ((0 : Int) = y2)))) ∧ ((n ≤ n) ∧ (∀ e3 : E, ((0 ≤ e3.den ∧ e3.den < n) → ((((X (e3.den))) = ((X (e3.den)))) ∧ (((Y (e3.den))) = ((Y (e3.den))))))))))) ∧ (∀ x1 : Int, (((0 ≤ x1 ∧ x1 ≤ n) ∧ ∀ i, 0 ≤ i → i < x1 → gok1 X Y i = true) → (((x1 < n) → ((((0 ≤ x1) ∧ (x1 < n))) ∧ ((x1 < n) ∧ (((((X (x1))) = ((X (x1)))) ∧ (((Y (x1))) = ((Y (x1))))) ∧ ((((okP ((X (x1))) ((Y (x1)))) = false) → (((gok X Y n) = false) ∧ ((n ≤ n) ∧ (∀ e4 : E, ((0 ≤ e4.den ∧ e4.den < n) → ((((X (e4.den))) = ((X (e4.den)))) ∧ (((Y (e4.den))) = ((Y (e4.den)))))))))) ∧ (((okP ((X (x1))) ((Y (x1)))) = true) → ((((0 ≤ x1) ∧ (x1 ≤ n))) ∧ (((0 + x1 : Int) ≤ n) ∧ (((((0 : Int) = 0) ∧ (x1 = x1)) ∧ ((((X (x1))) = ((X (x1)))) ∧ (((Y (x1))) = ((Y (x1)))))) ∧ (((n ≤ n) ∧ (∀ e5 : E, ((0 ≤ e5.den ∧ e5.den < n) → ((((X (e5.den))) = ((X (e5.den)))) ∧ (((Y (e5.den))) = ((Y (e5.den)))))))) ∧ ((((decide (0 ≤ fidx (gq (fun i => X (0 + i)) (fun i => Y (0 + i)) ((X (x1))) ((Y (x1)))) x1)) = true) → (((gok X Y n) = false) ∧ ((n ≤ n) ∧ (∀ e6 : E, ((0 ≤ e6.den ∧ e6.den < n) → ((((X (e6.den))) = ((X (e6.den)))) ∧ (((Y (e6.den))) = ((Y (e6.den)))))))))) ∧ (((decide (0 ≤ fidx (gq (fun i => X (0 + i)) (fun i => Y (0 + i)) ((X (x1))) ((Y (x1)))) x1)) = false) → (∃ y7 : Int, (((0 ≤ y7 ∧ y7 ≤ n) ∧ ∀ i, 0 ≤ i → i < y7 → gok1 X Y i = true) ∧ ((((n = n) ∧ ((n = n) ∧ ((n = n) ∧ (((x1 + 1) = y7) ∧ ((1 ≤ (x1 + 1) ∧ (x1 + 1) ≤ 1048577) → (0 ≤ y7 ∧ y7 ≤ 1048576)))))) ∧ ((n ≤ n) ∧ (∀ e8 : E, ((0 ≤ e8.den ∧ e8.den < n) → ((((X (e8.den))) = ((X (e8.den)))) ∧ (((Y (e8.den))) = ((Y (e8.den))))))))) ∧ ((n - y7).toNat < (n - x1).toNat)))))))))))))))) ∧ ((n ≤ x1) → (((n ≤ 8) ↔ ((gok X Y n) = true)) ∧ ((n ≤ n) ∧ (∀ e9 : E, ((0 ≤ e9.den ∧ e9.den < n) → ((((X (e9.den))) = ((X (e9.den)))) ∧ (((Y (e9.den))) = ((Y (e9.den))))))))))))))) (by kernel_rfl) ?_
  intro h1 h2
  refine ⟨?_, ?_⟩
  · refine ⟨0, ?_⟩
    try dsimp only
    refine ⟨?_, ?_, Int.le_refl _, fun _ => fun _ => ⟨rfl, rfl⟩⟩
      -- 1: (0 ≤ y2 ∧ y2 ≤ n) ∧ ∀ i, 0 ≤ i → i < y2 → gok1 X Y i = true
    · first | omega | rfl | exact ⟨by omega, fun i a b => by omega⟩ | exact gok_no (j := j) (by omega) (by omega) (gok1_a (by assumption)) | (have hz := fidx_zero (X := X) (Y := Y) (gX := X j) (gY := Y j) (n := j); first | (have hc : 0 ≤ fidx (gq (fun i => X (0 + i)) (fun i => Y (0 + i)) (X j) (Y j)) j := of_decide_eq_true (by assumption); exact gok_no (j := j) (by omega) (by omega) (gok1_b (by rw [← hz]; exact hc))) | (have hc : ¬ 0 ≤ fidx (gq (fun i => X (0 + i)) (fun i => Y (0 + i)) (X j) (Y j)) j := of_decide_eq_false (by assumption); refine ⟨by omega, fun i a b => ?_⟩; by_cases e : i = j; (rw [e]; exact gok1_y (by assumption) (by rw [← hz]; omega)); exact I1.2 i a (by omega))) | exact gok_all (fun i a b => I1.2 i a (by omega)) | fail
    · refine ⟨rfl, rfl, rfl, ?_⟩
      -- 2: (0 : Int) = y2
      first | omega | rfl | exact ⟨by omega, fun i a b => by omega⟩ | exact gok_no (j := j) (by omega) (by omega) (gok1_a (by assumption)) | (have hz := fidx_zero (X := X) (Y := Y) (gX := X j) (gY := Y j) (n := j); first | (have hc : 0 ≤ fidx (gq (fun i => X (0 + i)) (fun i => Y (0 + i)) (X j) (Y j)) j := of_decide_eq_true (by assumption); exact gok_no (j := j) (by omega) (by omega) (gok1_b (by rw [← hz]; exact hc))) | (have hc : ¬ 0 ≤ fidx (gq (fun i => X (0 + i)) (fun i => Y (0 + i)) (X j) (Y j)) j := of_decide_eq_false (by assumption); refine ⟨by omega, fun i a b => ?_⟩; by_cases e : i = j; (rw [e]; exact gok1_y (by assumption) (by rw [← hz]; omega)); exact I1.2 i a (by omega))) | exact gok_all (fun i a b => I1.2 i a (by omega)) | fail
  · intro j
    intro I1
    refine ⟨?_, ?_⟩
    · intro c11
      refine ⟨?_, ?_, ⟨rfl, rfl⟩, ?_, ?_⟩
        -- 3: ((0 ≤ x1) ∧ (x1 < n))
      · first | omega | rfl | exact ⟨by omega, fun i a b => by omega⟩ | exact gok_no (j := j) (by omega) (by omega) (gok1_a (by assumption)) | (have hz := fidx_zero (X := X) (Y := Y) (gX := X j) (gY := Y j) (n := j); first | (have hc : 0 ≤ fidx (gq (fun i => X (0 + i)) (fun i => Y (0 + i)) (X j) (Y j)) j := of_decide_eq_true (by assumption); exact gok_no (j := j) (by omega) (by omega) (gok1_b (by rw [← hz]; exact hc))) | (have hc : ¬ 0 ≤ fidx (gq (fun i => X (0 + i)) (fun i => Y (0 + i)) (X j) (Y j)) j := of_decide_eq_false (by assumption); refine ⟨by omega, fun i a b => ?_⟩; by_cases e : i = j; (rw [e]; exact gok1_y (by assumption) (by rw [← hz]; omega)); exact I1.2 i a (by omega))) | exact gok_all (fun i a b => I1.2 i a (by omega)) | fail
        -- 4: x1 < n
      · first | omega | rfl | exact ⟨by omega, fun i a b => by omega⟩ | exact gok_no (j := j) (by omega) (by omega) (gok1_a (by assumption)) | (have hz := fidx_zero (X := X) (Y := Y) (gX := X j) (gY := Y j) (n := j); first | (have hc : 0 ≤ fidx (gq (fun i => X (0 + i)) (fun i => Y (0 + i)) (X j) (Y j)) j := of_decide_eq_true (by assumption); exact gok_no (j := j) (by omega) (by omega) (gok1_b (by rw [← hz]; exact hc))) | (have hc : ¬ 0 ≤ fidx (gq (fun i => X (0 + i)) (fun i => Y (0 + i)) (X j) (Y j)) j := of_decide_eq_false (by assumption); refine ⟨by omega, fun i a b => ?_⟩; by_cases e : i = j; (rw [e]; exact gok1_y (by assumption) (by rw [← hz]; omega)); exact I1.2 i a (by omega))) | exact gok_all (fun i a b => I1.2 i a (by omega)) | fail
      · intro c12
        refine ⟨?_, Int.le_refl _, fun _ => fun _ => ⟨rfl, rfl⟩⟩
        -- 5: (gok X Y n) = false
        first | omega | rfl | exact ⟨by omega, fun i a b => by omega⟩ | exact gok_no (j := j) (by omega) (by omega) (gok1_a (by assumption)) | (have hz := fidx_zero (X := X) (Y := Y) (gX := X j) (gY := Y j) (n := j); first | (have hc : 0 ≤ fidx (gq (fun i => X (0 + i)) (fun i => Y (0 + i)) (X j) (Y j)) j := of_decide_eq_true (by assumption); exact gok_no (j := j) (by omega) (by omega) (gok1_b (by rw [← hz]; exact hc))) | (have hc : ¬ 0 ≤ fidx (gq (fun i => X (0 + i)) (fun i => Y (0 + i)) (X j) (Y j)) j := of_decide_eq_false (by assumption); refine ⟨by omega, fun i a b => ?_⟩; by_cases e : i = j; (rw [e]; exact gok1_y (by assumption) (by rw [← hz]; omega)); exact I1.2 i a (by omega))) | exact gok_all (fun i a b => I1.2 i a (by omega)) | fail
      · intro c13
        refine ⟨?_, ?_, ⟨⟨rfl, rfl⟩, ⟨rfl, rfl⟩⟩, ⟨Int.le_refl _, fun _ => fun _ => ⟨rfl, rfl⟩⟩, ?_, ?_⟩
          -- 6: ((0 ≤ x1) ∧ (x1 ≤ n))
        · first | omega | rfl | exact ⟨by omega, fun i a b => by omega⟩ | exact gok_no (j := j) (by omega) (by omega) (gok1_a (by assumption)) | (have hz := fidx_zero (X := X) (Y := Y) (gX := X j) (gY := Y j) (n := j); first | (have hc : 0 ≤ fidx (gq (fun i => X (0 + i)) (fun i => Y (0 + i)) (X j) (Y j)) j := of_decide_eq_true (by assumption); exact gok_no (j := j) (by omega) (by omega) (gok1_b (by rw [← hz]; exact hc))) | (have hc : ¬ 0 ≤ fidx (gq (fun i => X (0 + i)) (fun i => Y (0 + i)) (X j) (Y j)) j := of_decide_eq_false (by assumption); refine ⟨by omega, fun i a b => ?_⟩; by_cases e : i = j; (rw [e]; exact gok1_y (by assumption) (by rw [← hz]; omega)); exact I1.2 i a (by omega))) | exact gok_all (fun i a b => I1.2 i a (by omega)) | fail
          -- 7: (0 + x1 : Int) ≤ n
        · first | omega | rfl | exact ⟨by omega, fun i a b => by omega⟩ | exact gok_no (j := j) (by omega) (by omega) (gok1_a (by assumption)) | (have hz := fidx_zero (X := X) (Y := Y) (gX := X j) (gY := Y j) (n := j); first | (have hc : 0 ≤ fidx (gq (fun i => X (0 + i)) (fun i => Y (0 + i)) (X j) (Y j)) j := of_decide_eq_true (by assumption); exact gok_no (j := j) (by omega) (by omega) (gok1_b (by rw [← hz]; exact hc))) | (have hc : ¬ 0 ≤ fidx (gq (fun i => X (0 + i)) (fun i => Y (0 + i)) (X j) (Y j)) j := of_decide_eq_false (by assumption); refine ⟨by omega, fun i a b => ?_⟩; by_cases e : i = j; (rw [e]; exact gok1_y (by assumption) (by rw [← hz]; omega)); exact I1.2 i a (by omega))) | exact gok_all (fun i a b => I1.2 i a (by omega)) | fail
        · intro c14
          refine ⟨?_, Int.le_refl _, fun _ => fun _ => ⟨rfl, rfl⟩⟩
          -- 8: (gok X Y n) = false
          first | omega | rfl | exact ⟨by omega, fun i a b => by omega⟩ | exact gok_no (j := j) (by omega) (by omega) (gok1_a (by assumption)) | (have hz := fidx_zero (X := X) (Y := Y) (gX := X j) (gY := Y j) (n := j); first | (have hc : 0 ≤ fidx (gq (fun i => X (0 + i)) (fun i => Y (0 + i)) (X j) (Y j)) j := of_decide_eq_true (by assumption); exact gok_no (j := j) (by omega) (by omega) (gok1_b (by rw [← hz]; exact hc))) | (have hc : ¬ 0 ≤ fidx (gq (fun i => X (0 + i)) (fun i => Y (0 + i)) (X j) (Y j)) j := of_decide_eq_false (by assumption); refine ⟨by omega, fun i a b => ?_⟩; by_cases e : i = j; (rw [e]; exact gok1_y (by assumption) (by rw [← hz]; omega)); exact I1.2 i a (by omega))) | exact gok_all (fun i a b => I1.2 i a (by omega)) | fail
        · intro c15
          refine ⟨j + 1, ?_⟩
          try dsimp only
          refine ⟨?_, ?_, ?_⟩
            -- 9: (0 ≤ y7 ∧ y7 ≤ n) ∧ ∀ i, 0 ≤ i → i < y7 → gok1 X Y i = true
          · first | omega | rfl | exact ⟨by omega, fun i a b => by omega⟩ | exact gok_no (j := j) (by omega) (by omega) (gok1_a (by assumption)) | (have hz := fidx_zero (X := X) (Y := Y) (gX := X j) (gY := Y j) (n := j); first | (have hc : 0 ≤ fidx (gq (fun i => X (0 + i)) (fun i => Y (0 + i)) (X j) (Y j)) j := of_decide_eq_true (by assumption); exact gok_no (j := j) (by omega) (by omega) (gok1_b (by rw [← hz]; exact hc))) | (have hc : ¬ 0 ≤ fidx (gq (fun i => X (0 + i)) (fun i => Y (0 + i)) (X j) (Y j)) j := of_decide_eq_false (by assumption); refine ⟨by omega, fun i a b => ?_⟩; by_cases e : i = j; (rw [e]; exact gok1_y (by assumption) (by rw [← hz]; omega)); exact I1.2 i a (by omega))) | exact gok_all (fun i a b => I1.2 i a (by omega)) | fail
          · refine ⟨?_, Int.le_refl _, fun _ => fun _ => ⟨rfl, rfl⟩⟩
            refine ⟨rfl, rfl, rfl, ?_, ?_⟩
              -- 10: (x1 + 1) = y7
            · first | omega | rfl | exact ⟨by omega, fun i a b => by omega⟩ | exact gok_no (j := j) (by omega) (by omega) (gok1_a (by assumption)) | (have hz := fidx_zero (X := X) (Y := Y) (gX := X j) (gY := Y j) (n := j); first | (have hc : 0 ≤ fidx (gq (fun i => X (0 + i)) (fun i => Y (0 + i)) (X j) (Y j)) j := of_decide_eq_true (by assumption); exact gok_no (j := j) (by omega) (by omega) (gok1_b (by rw [← hz]; exact hc))) | (have hc : ¬ 0 ≤ fidx (gq (fun i => X (0 + i)) (fun i => Y (0 + i)) (X j) (Y j)) j := of_decide_eq_false (by assumption); refine ⟨by omega, fun i a b => ?_⟩; by_cases e : i = j; (rw [e]; exact gok1_y (by assumption) (by rw [← hz]; omega)); exact I1.2 i a (by omega))) | exact gok_all (fun i a b => I1.2 i a (by omega)) | fail
            · intro c16
              -- 11: 0 ≤ y7 ∧ y7 ≤ 1048576
              first | omega | rfl | exact ⟨by omega, fun i a b => by omega⟩ | exact gok_no (j := j) (by omega) (by omega) (gok1_a (by assumption)) | (have hz := fidx_zero (X := X) (Y := Y) (gX := X j) (gY := Y j) (n := j); first | (have hc : 0 ≤ fidx (gq (fun i => X (0 + i)) (fun i => Y (0 + i)) (X j) (Y j)) j := of_decide_eq_true (by assumption); exact gok_no (j := j) (by omega) (by omega) (gok1_b (by rw [← hz]; exact hc))) | (have hc : ¬ 0 ≤ fidx (gq (fun i => X (0 + i)) (fun i => Y (0 + i)) (X j) (Y j)) j := of_decide_eq_false (by assumption); refine ⟨by omega, fun i a b => ?_⟩; by_cases e : i = j; (rw [e]; exact gok1_y (by assumption) (by rw [← hz]; omega)); exact I1.2 i a (by omega))) | exact gok_all (fun i a b => I1.2 i a (by omega)) | fail
            -- 12: (n - y7).toNat < (n - x1).toNat
          · first | omega | rfl | exact ⟨by omega, fun i a b => by omega⟩ | exact gok_no (j := j) (by omega) (by omega) (gok1_a (by assumption)) | (have hz := fidx_zero (X := X) (Y := Y) (gX := X j) (gY := Y j) (n := j); first | (have hc : 0 ≤ fidx (gq (fun i => X (0 + i)) (fun i => Y (0 + i)) (X j) (Y j)) j := of_decide_eq_true (by assumption); exact gok_no (j := j) (by omega) (by omega) (gok1_b (by rw [← hz]; exact hc))) | (have hc : ¬ 0 ≤ fidx (gq (fun i => X (0 + i)) (fun i => Y (0 + i)) (X j) (Y j)) j := of_decide_eq_false (by assumption); refine ⟨by omega, fun i a b => ?_⟩; by_cases e : i = j; (rw [e]; exact gok1_y (by assumption) (by rw [← hz]; omega)); exact I1.2 i a (by omega))) | exact gok_all (fun i a b => I1.2 i a (by omega)) | fail
    · intro c17
      refine ⟨?_, Int.le_refl _, fun _ => fun _ => ⟨rfl, rfl⟩⟩
      -- 13: (n ≤ 8) ↔ ((gok X Y n) = true)
      first | omega | rfl | exact ⟨by omega, fun i a b => by omega⟩ | exact gok_no (j := j) (by omega) (by omega) (gok1_a (by assumption)) | (have hz := fidx_zero (X := X) (Y := Y) (gX := X j) (gY := Y j) (n := j); first | (have hc : 0 ≤ fidx (gq (fun i => X (0 + i)) (fun i => Y (0 + i)) (X j) (Y j)) j := of_decide_eq_true (by assumption); exact gok_no (j := j) (by omega) (by omega) (gok1_b (by rw [← hz]; exact hc))) | (have hc : ¬ 0 ≤ fidx (gq (fun i => X (0 + i)) (fun i => Y (0 + i)) (X j) (Y j)) j := of_decide_eq_false (by assumption); refine ⟨by omega, fun i a b => ?_⟩; by_cases e : i = j; (rw [e]; exact gok1_y (by assumption) (by rw [← hz]; omega)); exact I1.2 i a (by omega))) | exact gok_all (fun i a b => I1.2 i a (by omega)) | fail
def c_i_graphsOk_q (X : Int → Int) (Y : Int → Int) (n : Int) : Cn Try.prog := ⟨_, _, _, _, _, i_graphsOk_q X Y n⟩
theorem i_graphsOk (X : Int → Int) (Y : Int → Int) (n : Int) : RunsTo Try.prog 27 [(.sl 0 2 (.lit 0) (.v fun _ => n) 1048576)] [some ⟨35, 2, true, (.sym (.v fun _ => n) fun e => [(.int .i64 (.v fun _ => (X (e.den))) (-9223372036854775808) 9223372036854775807), (.int .i64 (.v fun _ => (Y (e.den))) (-9223372036854775808) 9223372036854775807)])⟩] (.bool (.v fun _ => gok X Y n)) [some ⟨35, 2, true, (.sym (.v fun _ => n) fun e => [(.int .i64 (.v fun _ => (X (e.den))) (-9223372036854775808) 9223372036854775807), (.int .i64 (.v fun _ => (Y (e.den))) (-9223372036854775808) 9223372036854775807)])⟩] := by
  refine RunsTo.go env Try.func27 rfl Try.call27 rfl rfl (fun _ _ => (.loop [] [0] (Int) (fun x1 => ⟨spl 26 0 [(0, (.sl 0 2 (.lit 0) (.v fun _ => n) 1048576)), (5, (.sl 0 2 (.lit 0) (.v fun _ => n) 1048576)), (6, (.int .i64 (.v fun _ => n) 0 1048576)), (7, (.int .i64 (.v fun _ => x1) 0 1048576))], [some ⟨35, 2, true, (.sym (.v fun _ => n) fun e => [(.int .i64 (.v fun _ => (X (e.den))) (-9223372036854775808) 9223372036854775807), (.int .i64 (.v fun _ => (Y (e.den))) (-9223372036854775808) 9223372036854775807)])⟩], 1⟩) (fun x1 => (0 ≤ x1 ∧ x1 ≤ n) ∧ ∀ i, 0 ≤ i → i < x1 → gok1 X Y i = true) (fun x1 => (n - x1).toNat) fun x1 => (.ite (.need (.need (.call (c_i_gvalid ((X (x1))) ((Y (x1)))) (.ite (.out .ret) (.need (.callH (c_Contains_part X Y x1 ((X (x1))) ((Y (x1))) 0 n) (.ite (.out .ret) (.next [0])))))))) (.out .ret)))) (G := (0 ≤ n ∧ n ≤ 1048576) → (∀ e10 : E, ((0 ≤ e10.den ∧ e10.den < n) → (((-9223372036854775808) ≤ ((X (e10.den))) ∧ ((X (e10.den))) ≤ 9223372036854775807) ∧ ((-9223372036854775808) ≤ ((Y (e10.den))) ∧ ((Y (e10.den))) ≤ 9223372036854775807)))) → ((∃ y2 : Int, (((0 ≤ y2 ∧ y2 ≤ n) ∧ ∀ i, 0 ≤ i → i < y2 → gok1 X Y i = true) ∧ (((n = n) ∧ ((n = n) ∧ ((n = n) ∧ ((0 : Int) = y2)))) ∧ ((n ≤ n) ∧ (∀ e3 : E, ((0 ≤ e3.den ∧ e3.den < n) → ((((X (e3.den))) = ((X (e3.den)))) ∧ (((Y (e3.den))) = ((Y (e3.den))))))))))) ∧ (∀ x1 : Int, (((0 ≤ x1 ∧ x1 ≤ n) ∧ ∀ i, 0 ≤ i → i < x1 → gok1 X Y i = true) → (((x1 < n) → ((((0 ≤ x1) ∧ (x1 < n))) ∧ ((x1 < n) ∧ (((((X (x1))) = ((X (x1)))) ∧ (((Y (x1))) = ((Y (x1))))) ∧ ((((okP ((X (x1))) ((Y (x1)))) = false) → (((gok X Y n) = false) ∧ ((n ≤ n) ∧ (∀ e4 : E, ((0 ≤ e4.den ∧ e4.den < n) → ((((X (e4.den))) = ((X (e4.den)))) ∧ (((Y (e4.den))) = ((Y (e4.den)))))))))) ∧ (((okP ((X (x1))) ((Y (x1)))) = true) → ((((0 ≤ x1) ∧ (x1 ≤ n))) ∧ (((0 + x1 : Int) ≤ n) ∧ (((((0 : Int) = 0) ∧ (x1 = x1)) ∧ ((((X (x1))) = ((X (x1)))) ∧ (((Y (x1))) = ((Y (x1)))))) ∧ (((n ≤ n) ∧ (∀ e5 : E, ((0 ≤ e5.den ∧ e5.den < n) → ((((X (e5.den))) = ((X (e5.den)))) ∧ (((Y (e5.den))) = ((Y (e5.den)))))))) ∧ ((((decide (0 ≤ fidx (gq (fun i => X (0 + i)) (fun i => Y (0 + i)) ((X (x1))) ((Y (x1)))) x1)) = true) → (((gok X Y n) = false) ∧ ((n ≤ n) ∧ (∀ e6 : E, ((0 ≤ e6.den ∧ e6.den < n) → ((((X (e6.den))) = ((X (e6.den)))) ∧ (((Y (e6.den))) = ((Y (e6.den)))))))))) ∧ (((decide (0 ≤ fidx (gq (fun i => X (0 + i)) (fun i => Y (0 + i)) ((X (x1))) ((Y (x1)))) x1)) = false) → (∃ y7 : Int, (((0 ≤ y7 ∧ y7 ≤ n) ∧ ∀ i, 0 ≤ i → i < y7 → gok1 X Y i = true) ∧ ((((n = n) ∧ ((n = n) ∧ ((n = n) ∧ (((x1 + 1) = y7) ∧ ((1 ≤ (x1 + 1) ∧ (x1 + 1) ≤ 1048577) → (0 ≤ y7 ∧ y7 ≤ 1048576)))))) ∧ ((n ≤ n) ∧ (∀ e8 : E, ((0 ≤ e8.den ∧ e8.den < n) → ((((X (e8.den))) = ((X (e8.den)))) ∧ (((Y (e8.den))) = ((Y (e8.den))))))))) ∧ ((n - y7).toNat < (n - x1).toNat)))))))))))))))) ∧ ((n ≤ x1) → (((n ≤ 8) ↔ ((gok X Y n) = true)) ∧ ((n ≤ n) ∧ (∀ e9 : E, ((0 ≤ e9.den ∧ e9.den < n) → ((((X (e9.den))) = ((X (e9.den)))) ∧ (((Y (e9.den))) = ((Y (e9.den))))))))))))))) (by kernel_rfl) ?_
  intro h1 h2
  refine ⟨?_, ?_⟩
  · refine ⟨0, ?_⟩
    try dsimp only
    refine ⟨?_, ?_, Int.le_refl _, fun _ => fun _ => ⟨rfl, rfl⟩⟩
      -- 1: (0 ≤ y2 ∧ y2 ≤ n) ∧ ∀ i, 0 ≤ i → i < y2 → gok1 X Y i = true
    · first | omega | rfl | exact ⟨by omega, fun i a b => by omega⟩ | exact gok_no (j := j) (by omega) (by omega) (gok1_a (by assumption)) | (have hz := fidx_zero (X := X) (Y := Y) (gX := X j) (gY := Y j) (n := j); first | (have hc : 0 ≤ fidx (gq (fun i => X (0 + i)) (fun i => Y (0 + i)) (X j) (Y j)) j := of_decide_eq_true (by assumption); exact gok_no (j := j) (by omega) (by omega) (gok1_b (by rw [← hz]; exact hc))) | (have hc : ¬ 0 ≤ fidx (gq (fun i => X (0 + i)) (fun i => Y (0 + i)) (X j) (Y j)) j := of_decide_eq_false (by assumption); refine ⟨by omega, fun i a b => ?_⟩; by_cases e : i = j; (rw [e]; exact gok1_y (by assumption) (by rw [← hz]; omega)); exact I1.2 i a (by omega))) | exact gok_all (fun i a b => I1.2 i a (by omega)) | fail
    · refine ⟨rfl, rfl, rfl, ?_⟩
      -- 2: (0 : Int) = y2
      first | omega | rfl | exact ⟨by omega, fun i a b => by omega⟩ | exact gok_no (j := j) (by omega) (by omega) (gok1_a (by assumption)) | (have hz := fidx_zero (X := X) (Y := Y) (gX := X j) (gY := Y j) (n := j); first | (have hc : 0 ≤ fidx (gq (fun i => X (0 + i)) (fun i => Y (0 + i)) (X j) (Y j)) j := of_decide_eq_true (by assumption); exact gok_no (j := j) (by omega) (by omega) (gok1_b (by rw [← hz]; exact hc))) | (have hc : ¬ 0 ≤ fidx (gq (fun i => X (0 + i)) (fun i => Y (0 + i)) (X j) (Y j)) j := of_decide_eq_false (by assumption); refine ⟨by omega, fun i a b => ?_⟩; by_cases e : i = j; (rw [e]; exact gok1_y (by assumption) (by rw [← hz]; omega)); exact I1.2 i a (by omega))) | exact gok_all (fun i a b => I1.2 i a (by omega)) | fail
  · intro j
    intro I1
    refine ⟨?_, ?_⟩
    · intro c11
      refine ⟨?_, ?_, ⟨rfl, rfl⟩, ?_, ?_⟩
        -- 3: ((0 ≤ x1) ∧ (x1 < n))
      · first | omega | rfl | exact ⟨by omega, fun i a b => by omega⟩ | exact gok_no (j := j) (by omega) (by omega) (gok1_a (by assumption)) | (have hz := fidx_zero (X := X) (Y := Y) (gX := X j) (gY := Y j) (n := j); first | (have hc : 0 ≤ fidx (gq (fun i => X (0 + i)) (fun i => Y (0 + i)) (X j) (Y j)) j := of_decide_eq_true (by assumption); exact gok_no (j := j) (by omega) (by omega) (gok1_b (by rw [← hz]; exact hc))) | (have hc : ¬ 0 ≤ fidx (gq (fun i => X (0 + i)) (fun i => Y (0 + i)) (X j) (Y j)) j := of_decide_eq_false (by assumption); refine ⟨by omega, fun i a b => ?_⟩; by_cases e : i = j; (rw [e]; exact gok1_y (by assumption) (by rw [← hz]; omega)); exact I1.2 i a (by omega))) | exact gok_all (fun i a b => I1.2 i a (by omega)) | fail
        -- 4: x1 < n
      · first | omega | rfl | exact ⟨by omega, fun i a b => by omega⟩ | exact gok_no (j := j) (by omega) (by omega) (gok1_a (by assumption)) | (have hz := fidx_zero (X := X) (Y := Y) (gX := X j) (gY := Y j) (n := j); first | (have hc : 0 ≤ fidx (gq (fun i => X (0 + i)) (fun i => Y (0 + i)) (X j) (Y j)) j := of_decide_eq_true (by assumption); exact gok_no (j := j) (by omega) (by omega) (gok1_b (by rw [← hz]; exact hc))) | (have hc : ¬ 0 ≤ fidx (gq (fun i => X (0 + i)) (fun i => Y (0 + i)) (X j) (Y j)) j := of_decide_eq_false (by assumption); refine ⟨by omega, fun i a b => ?_⟩; by_cases e : i = j; (rw [e]; exact gok1_y (by assumption) (by rw [← hz]; omega)); exact I1.2 i a (by omega))) | exact gok_all (fun i a b => I1.2 i a (by omega)) | fail
      · intro c12
        refine ⟨?_, Int.le_refl _, fun _ => fun _ => ⟨rfl, rfl⟩⟩
        -- 5: (gok X Y n) = false
        first | omega | rfl | exact ⟨by omega, fun i a b => by omega⟩ | exact gok_no (j := j) (by omega) (by omega) (gok1_a (by assumption)) | (have hz := fidx_zero (X := X) (Y := Y) (gX := X j) (gY := Y j) (n := j); first | (have hc : 0 ≤ fidx (gq (fun i => X (0 + i)) (fun i => Y (0 + i)) (X j) (Y j)) j := of_decide_eq_true (by assumption); exact gok_no (j := j) (by omega) (by omega) (gok1_b (by rw [← hz]; exact hc))) | (have hc : ¬ 0 ≤ fidx (gq (fun i => X (0 + i)) (fun i => Y (0 + i)) (X j) (Y j)) j := of_decide_eq_false (by assumption); refine ⟨by omega, fun i a b => ?_⟩; by_cases e : i = j; (rw [e]; exact gok1_y (by assumption) (by rw [← hz]; omega)); exact I1.2 i a (by omega))) | exact gok_all (fun i a b => I1.2 i a (by omega)) | fail
      · intro c13
        refine ⟨?_, ?_, ⟨⟨rfl, rfl⟩, ⟨rfl, rfl⟩⟩, ⟨Int.le_refl _, fun _ => fun _ => ⟨rfl, rfl⟩⟩, ?_, ?_⟩
          -- 6: ((0 ≤ x1) ∧ (x1 ≤ n))
        · first | omega | rfl | exact ⟨by omega, fun i a b => by omega⟩ | exact gok_no (j := j) (by omega) (by omega) (gok1_a (by assumption)) | (have hz := fidx_zero (X := X) (Y := Y) (gX := X j) (gY := Y j) (n := j); first | (have hc : 0 ≤ fidx (gq (fun i => X (0 + i)) (fun i => Y (0 + i)) (X j) (Y j)) j := of_decide_eq_true (by assumption); exact gok_no (j := j) (by omega) (by omega) (gok1_b (by rw [← hz]; exact hc))) | (have hc : ¬ 0 ≤ fidx (gq (fun i => X (0 + i)) (fun i => Y (0 + i)) (X j) (Y j)) j := of_decide_eq_false (by assumption); refine ⟨by omega, fun i a b => ?_⟩; by_cases e : i = j; (rw [e]; exact gok1_y (by assumption) (by rw [← hz]; omega)); exact I1.2 i a (by omega))) | exact gok_all (fun i a b => I1.2 i a (by omega)) | fail
          -- 7: (0 + x1 : Int) ≤ n
        · first | omega | rfl | exact ⟨by omega, fun i a b => by omega⟩ | exact gok_no (j := j) (by omega) (by omega) (gok1_a (by assumption)) | (have hz := fidx_zero (X := X) (Y := Y) (gX := X j) (gY := Y j) (n := j); first | (have hc : 0 ≤ fidx (gq (fun i => X (0 + i)) (fun i => Y (0 + i)) (X j) (Y j)) j := of_decide_eq_true (by assumption); exact gok_no (j := j) (by omega) (by omega) (gok1_b (by rw [← hz]; exact hc))) | (have hc : ¬ 0 ≤ fidx (gq (fun i => X (0 + i)) (fun i => Y (0 + i)) (X j) (Y j)) j := of_decide_eq_false (by assumption); refine ⟨by omega, fun i a b => ?_⟩; by_cases e : i = j; (rw [e]; exact gok1_y (by assumption) (by rw [← hz]; omega)); exact I1.2 i a (by omega))) | exact gok_all (fun i a b => I1.2 i a (by omega)) | fail
        · intro c14
          refine ⟨?_, Int.le_refl _, fun _ => fun _ => ⟨rfl, rfl⟩⟩
          -- 8: (gok X Y n) = false
          first | omega | rfl | exact ⟨by omega, fun i a b => by omega⟩ | exact gok_no (j := j) (by omega) (by omega) (gok1_a (by assumption)) | (have hz := fidx_zero (X := X) (Y := Y) (gX := X j) (gY := Y j) (n := j); first | (have hc : 0 ≤ fidx (gq (fun i => X (0 + i)) (fun i => Y (0 + i)) (X j) (Y j)) j := of_decide_eq_true (by assumption); exact gok_no (j := j) (by omega) (by omega) (gok1_b (by rw [← hz]; exact hc))) | (have hc : ¬ 0 ≤ fidx (gq (fun i => X (0 + i)) (fun i => Y (0 + i)) (X j) (Y j)) j := of_decide_eq_false (by assumption); refine ⟨by omega, fun i a b => ?_⟩; by_cases e : i = j; (rw [e]; exact gok1_y (by assumption) (by rw [← hz]; omega)); exact I1.2 i a (by omega))) | exact gok_all (fun i a b => I1.2 i a (by omega)) | fail
        · intro c15
          refine ⟨j + 1, ?_⟩
          try dsimp only
          refine ⟨?_, ?_, ?_⟩
            -- 9: (0 ≤ y7 ∧ y7 ≤ n) ∧ ∀ i, 0 ≤ i → i < y7 → gok1 X Y i = true
          · first | omega | rfl | exact ⟨by omega, fun i a b => by omega⟩ | exact gok_no (j := j) (by omega) (by omega) (gok1_a (by assumption)) | (have hz := fidx_zero (X := X) (Y := Y) (gX := X j) (gY := Y j) (n := j); first | (have hc : 0 ≤ fidx (gq (fun i => X (0 + i)) (fun i => Y (0 + i)) (X j) (Y j)) j := of_decide_eq_true (by assumption); exact gok_no (j := j) (by omega) (by omega) (gok1_b (by rw [← hz]; exact hc))) | (have hc : ¬ 0 ≤ fidx (gq (fun i => X (0 + i)) (fun i => Y (0 + i)) (X j) (Y j)) j := of_decide_eq_false (by assumption); refine ⟨by omega, fun i a b => ?_⟩; by_cases e : i = j; (rw [e]; exact gok1_y (by assumption) (by rw [← hz]; omega)); exact I1.2 i a (by omega))) | exact gok_all (fun i a b => I1.2 i a (by omega)) | fail
          · refine ⟨?_, Int.le_refl _, fun _ => fun _ => ⟨rfl, rfl⟩⟩
            refine ⟨rfl, rfl, rfl, ?_, ?_⟩
              -- 10: (x1 + 1) = y7
            · first | omega | rfl | exact ⟨by omega, fun i a b => by omega⟩ | exact gok_no (j := j) (by omega) (by omega) (gok1_a (by assumption)) | (have hz := fidx_zero (X := X) (Y := Y) (gX := X j) (gY := Y j) (n := j); first | (have hc : 0 ≤ fidx (gq (fun i => X (0 + i)) (fun i => Y (0 + i)) (X j) (Y j)) j := of_decide_eq_true (by assumption); exact gok_no (j := j) (by omega) (by omega) (gok1_b (by rw [← hz]; exact hc))) | (have hc : ¬ 0 ≤ fidx (gq (fun i => X (0 + i)) (fun i => Y (0 + i)) (X j) (Y j)) j := of_decide_eq_false (by assumption); refine ⟨by omega, fun i a b => ?_⟩; by_cases e : i = j; (rw [e]; exact gok1_y (by assumption) (by rw [← hz]; omega)); exact I1.2 i a (by omega))) | exact gok_all (fun i a b => I1.2 i a (by omega)) | fail
            · intro c16
              -- 11: 0 ≤ y7 ∧ y7 ≤ 1048576
              first | omega | rfl | exact ⟨by omega, fun i a b => by omega⟩ | exact gok_no (j := j) (by omega) (by omega) (gok1_a (by assumption)) | (have hz := fidx_zero (X := X) (Y := Y) (gX := X j) (gY := Y j) (n := j); first | (have hc : 0 ≤ fidx (gq (fun i => X (0 + i)) (fun i => Y (0 + i)) (X j) (Y j)) j := of_decide_eq_true (by assumption); exact gok_no (j := j) (by omega) (by omega) (gok1_b (by rw [← hz]; exact hc))) | (have hc : ¬ 0 ≤ fidx (gq (fun i => X (0 + i)) (fun i => Y (0 + i)) (X j) (Y j)) j := of_decide_eq_false (by assumption); refine ⟨by omega, fun i a b => ?_⟩; by_cases e : i = j; (rw [e]; exact gok1_y (by assumption) (by rw [← hz]; omega)); exact I1.2 i a (by omega))) | exact gok_all (fun i a b => I1.2 i a (by omega)) | fail
            -- 12: (n - y7).toNat < (n - x1).toNat
          · first | omega | rfl | exact ⟨by omega, fun i a b => by omega⟩ | exact gok_no (j := j) (by omega) (by omega) (gok1_a (by assumption)) | (have hz := fidx_zero (X := X) (Y := Y) (gX := X j) (gY := Y j) (n := j); first | (have hc : 0 ≤ fidx (gq (fun i => X (0 + i)) (fun i => Y (0 + i)) (X j) (Y j)) j := of_decide_eq_true (by assumption); exact gok_no (j := j) (by omega) (by omega) (gok1_b (by rw [← hz]; exact hc))) | (have hc : ¬ 0 ≤ fidx (gq (fun i => X (0 + i)) (fun i => Y (0 + i)) (X j) (Y j)) j := of_decide_eq_false (by assumption); refine ⟨by omega, fun i a b => ?_⟩; by_cases e : i = j; (rw [e]; exact gok1_y (by assumption) (by rw [← hz]; omega)); exact I1.2 i a (by omega))) | exact gok_all (fun i a b => I1.2 i a (by omega)) | fail
    · intro c17
      refine ⟨?_, Int.le_refl _, fun _ => fun _ => ⟨rfl, rfl⟩⟩
      -- 13: (n ≤ 8) ↔ ((gok X Y n) = true)
      first | omega | rfl | exact ⟨by omega, fun i a b => by omega⟩ | exact gok_no (j := j) (by omega) (by omega) (gok1_a (by assumption)) | (have hz := fidx_zero (X := X) (Y := Y) (gX := X j) (gY := Y j) (n := j); first | (have hc : 0 ≤ fidx (gq (fun i => X (0 + i)) (fun i => Y (0 + i)) (X j) (Y j)) j := of_decide_eq_true (by assumption); exact gok_no (j := j) (by omega) (by omega) (gok1_b (by rw [← hz]; exact hc))) | (have hc : ¬ 0 ≤ fidx (gq (fun i => X (0 + i)) (fun i => Y (0 + i)) (X j) (Y j)) j := of_decide_eq_false (by assumption); refine ⟨by omega, fun i a b => ?_⟩; by_cases e : i = j; (rw [e]; exact gok1_y (by assumption) (by rw [← hz]; omega)); exact I1.2 i a (by omega))) | exact gok_all (fun i a b => I1.2 i a (by omega)) | fail
def c_i_graphsOk (X : Int → Int) (Y : Int → Int) (n : Int) : Cn Try.prog := ⟨_, _, _, _, _, i_graphsOk X Y n⟩
theorem s_validGraphs (X : Int → Int) (Y : Int → Int) (n : Int) : RunsTo Try.prog 22 [(.sl 0 2 (.lit 0) (.v fun _ => n) 1048576)] [some ⟨35, 2, true, (.sym (.v fun _ => n) fun e => [(.int .i64 (.v fun _ => (X (e.den))) (-9223372036854775808) 9223372036854775807), (.int .i64 (.v fun _ => (Y (e.den))) (-9223372036854775808) 9223372036854775807)])⟩] (.bool (.v fun _ => gok X Y n)) [some ⟨35, 2, true, (.sym (.v fun _ => n) fun e => [(.int .i64 (.v fun _ => (X (e.den))) (-9223372036854775808) 9223372036854775807), (.int .i64 (.v fun _ => (Y (e.den))) (-9223372036854775808) 9223372036854775807)])⟩] := by
  refine RunsTo.go env Try.func22 rfl Try.call22 rfl rfl (fun _ _ => (.loop [] [0] (Int) (fun x1 => ⟨spl 34 0 [(0, (.sl 0 2 (.lit 0) (.v fun _ => n) 1048576)), (3, (.int .i64 (.v fun _ => x1) 0 1048576))], [some ⟨35, 2, true, (.sym (.v fun _ => n) fun e => [(.int .i64 (.v fun _ => (X (e.den))) (-9223372036854775808) 9223372036854775807), (.int .i64 (.v fun _ => (Y (e.den))) (-9223372036854775808) 9223372036854775807)])⟩], 1⟩) (fun x1 => (0 ≤ x1 ∧ x1 ≤ n) ∧ ∀ i, 0 ≤ i → i < x1 → gok1 X Y i = true) (fun x1 => (n - x1).toNat) fun x1 => (.ite (.need (.need (.call (c_s_gvalid ((X (x1))) ((Y (x1)))) (.ite (.out .ret) (.loop [] [0] (Int) (fun x5 => ⟨spl 34 0 [(0, (.sl 0 2 (.lit 0) (.v fun _ => n) 1048576)), (3, (.int .i64 (.v fun _ => x1) 0 1048576)), (4, (.int .i64 (.v fun _ => x5) 0 1048576)), (5, (.int .i64 (.v fun _ => x1) 0 1048576)), (6, (.sl 0 2 (.lit 0) (.v fun _ => n) 1048576)), (7, (.int .i64 (.v fun _ => n) 0 1048576)), (8, (.bool (.lt (.v fun _ => x1) (.v fun _ => n)))), (11, (.sl 0 2 (.lit 0) (.v fun _ => n) 1048576)), (12, (.int .i64 (.v fun _ => x1) 0 1048576)), (13, (.ptr 0 2 (.v fun _ => x1) 0)), (14, (.agg [(.int .i64 (.v fun _ => (X (x1))) (-9223372036854775808) 9223372036854775807), (.int .i64 (.v fun _ => (Y (x1))) (-9223372036854775808) 9223372036854775807)])), (15, (.bool (.v fun _ => okP ((X (x1))) ((Y (x1)))))), (16, (.bool (.not (.v fun _ => okP ((X (x1))) ((Y (x1)))))))], [some ⟨35, 2, true, (.sym (.v fun _ => n) fun e => [(.int .i64 (.v fun _ => (X (e.den))) (-9223372036854775808) 9223372036854775807), (.int .i64 (.v fun _ => (Y (e.den))) (-9223372036854775808) 9223372036854775807)])⟩], 1⟩) (fun x5 => (0 ≤ x5 ∧ x5 ≤ x1 ∧ x1 < n) ∧ ∀ i, 0 ≤ i → i < x5 → ¬ ((X (i)) = (X (x1)) ∧ (Y (i)) = (Y (x1)))) (fun x5 => (x1 - x5).toNat) fun x5 => (.ite (.need (.need (.need (.need (.ite (.out (.out .ret)) (.next [0])))))) (.out (.next [0])))))))) (.out .ret)))) (G := (0 ≤ n ∧ n ≤ 1048576) → (∀ e14 : E, ((0 ≤ e14.den ∧ e14.den < n) → (((-9223372036854775808) ≤ ((X (e14.den))) ∧ ((X (e14.den))) ≤ 9223372036854775807) ∧ ((-9223372036854775808) ≤ ((Y (e14.den))) ∧ ((Y (e14.den))) ≤ 9223372036854775807)))) → ((∃ y2 : Int, (((0 ≤ y2 ∧ y2 ≤ n) ∧ ∀ i, 0 ≤ i → i < y2 → gok1 X Y i = true) ∧ (((n = n) ∧ ((0 : Int) = y2)) ∧ ((n ≤ n) ∧ (∀ e3 : E, ((0 ≤ e3.den ∧ e3.den < n) → ((((X (e3.den))) = ((X (e3.den)))) ∧ (((Y (e3.den))) = ((Y (e3.den))))))))))) ∧ (∀ x1 : Int, (((0 ≤ x1 ∧ x1 ≤ n) ∧ ∀ i, 0 ≤ i → i < x1 → gok1 X Y i = true) → (((x1 < n) → ((((0 ≤ x1) ∧ (x1 < n))) ∧ ((x1 < n) ∧ (((((X (x1))) = ((X (x1)))) ∧ (((Y (x1))) = ((Y (x1))))) ∧ ((((okP ((X (x1))) ((Y (x1)))) = false) → (((gok X Y n) = false) ∧ ((n ≤ n) ∧ (∀ e4 : E, ((0 ≤ e4.den ∧ e4.den < n) → ((((X (e4.den))) = ((X (e4.den)))) ∧ (((Y (e4.den))) = ((Y (e4.den)))))))))) ∧ (((okP ((X (x1))) ((Y (x1)))) = true) → ((∃ y6 : Int, (((0 ≤ y6 ∧ y6 ≤ x1 ∧ x1 < n) ∧ ∀ i, 0 ≤ i → i < y6 → ¬ ((X (i)) = (X (x1)) ∧ (Y (i)) = (Y (x1)))) ∧ (((n = n) ∧ ((x1 = x1) ∧ (((0 : Int) = y6) ∧ ((x1 = x1) ∧ ((n = n) ∧ ((n = n) ∧ (((x1 < n) ↔ (x1 < n)) ∧ ((n = n) ∧ ((x1 = x1) ∧ ((x1 = x1) ∧ (((((X (x1))) = ((X (x1)))) ∧ (((Y (x1))) = ((Y (x1))))) ∧ ((((okP ((X (x1))) ((Y (x1)))) = true) ↔ ((okP ((X (x1))) ((Y (x1)))) = true)) ∧ (((okP ((X (x1))) ((Y (x1)))) = false) ↔ ((okP ((X (x1))) ((Y (x1)))) = false)))))))))))))) ∧ ((n ≤ n) ∧ (∀ e7 : E, ((0 ≤ e7.den ∧ e7.den < n) → ((((X (e7.den))) = ((X (e7.den)))) ∧ (((Y (e7.den))) = ((Y (e7.den))))))))))) ∧ (∀ x5 : Int, (((0 ≤ x5 ∧ x5 ≤ x1 ∧ x1 < n) ∧ ∀ i, 0 ≤ i → i < x5 → ¬ ((X (i)) = (X (x1)) ∧ (Y (i)) = (Y (x1)))) → (((x5 < x1) → ((((0 ≤ x5) ∧ (x5 < n))) ∧ ((x5 < n) ∧ ((((0 ≤ x1) ∧ (x1 < n))) ∧ ((x1 < n) ∧ (((((((X (x5))) = ((X (x1)))) ∧ (((Y (x5))) = ((Y (x1)))))) → (((gok X Y n) = false) ∧ ((n ≤ n) ∧ (∀ e8 : E, ((0 ≤ e8.den ∧ e8.den < n) → ((((X (e8.den))) = ((X (e8.den)))) ∧ (((Y (e8.den))) = ((Y (e8.den)))))))))) ∧ ((((((X (x5))) ≠ ((X (x1)))) ∨ (((Y (x5))) ≠ ((Y (x1)))))) → (∃ y9 : Int, (((0 ≤ y9 ∧ y9 ≤ x1 ∧ x1 < n) ∧ ∀ i, 0 ≤ i → i < y9 → ¬ ((X (i)) = (X (x1)) ∧ (Y (i)) = (Y (x1)))) ∧ ((((n = n) ∧ ((x1 = x1) ∧ ((((x5 + 1) = y9) ∧ ((1 ≤ (x5 + 1) ∧ (x5 + 1) ≤ 1048577) → (0 ≤ y9 ∧ y9 ≤ 1048576))) ∧ ((x1 = x1) ∧ ((n = n) ∧ ((n = n) ∧ (((x1 < n) ↔ (x1 < n)) ∧ ((n = n) ∧ ((x1 = x1) ∧ ((x1 = x1) ∧ (((((X (x1))) = ((X (x1)))) ∧ (((Y (x1))) = ((Y (x1))))) ∧ ((((okP ((X (x1))) ((Y (x1)))) = true) ↔ ((okP ((X (x1))) ((Y (x1)))) = true)) ∧ (((okP ((X (x1))) ((Y (x1)))) = false) ↔ ((okP ((X (x1))) ((Y (x1)))) = false)))))))))))))) ∧ ((n ≤ n) ∧ (∀ e10 : E, ((0 ≤ e10.den ∧ e10.den < n) → ((((X (e10.den))) = ((X (e10.den)))) ∧ (((Y (e10.den))) = ((Y (e10.den))))))))) ∧ ((x1 - y9).toNat < (x1 - x5).toNat))))))))))) ∧ ((x1 ≤ x5) → (∃ y11 : Int, (((0 ≤ y11 ∧ y11 ≤ n) ∧ ∀ i, 0 ≤ i → i < y11 → gok1 X Y i = true) ∧ ((((n = n) ∧ (((x1 + 1) = y11) ∧ ((1 ≤ (x1 + 1) ∧ (x1 + 1) ≤ 1048577) → (0 ≤ y11 ∧ y11 ≤ 1048576)))) ∧ ((n ≤ n) ∧ (∀ e12 : E, ((0 ≤ e12.den ∧ e12.den < n) → ((((X (e12.den))) = ((X (e12.den)))) ∧ (((Y (e12.den))) = ((Y (e12.den))))))))) ∧ ((n - y11).toNat < (n - x1).toNat))))))))))))))) ∧ ((n ≤ x1) → (((n ≤ 8) ↔ ((gok X Y n) = true)) ∧ ((n ≤ n) ∧ (∀ e13 : E, ((0 ≤ e13.den ∧ e13.den < n) → ((((X (e13.den))) = ((X (e13.den)))) ∧ (((Y (e13.den))) = ((Y (e13.den))))))))))))))) (by kernel_rfl) ?_
  intro h1 h2
  refine ⟨?_, ?_⟩
  · refine ⟨0, ?_⟩
    try dsimp only
    refine ⟨?_, ?_, Int.le_refl _, fun _ => fun _ => ⟨rfl, rfl⟩⟩
      -- 1: (0 ≤ y2 ∧ y2 ≤ n) ∧ ∀ i, 0 ≤ i → i < y2 → gok1 X Y i = true
    · first | omega | rfl | exact ⟨by omega, fun i a b => by omega⟩ | exact gok_no (j := j) (by omega) (by omega) (gok1_a (by assumption)) | exact gok_no (j := j) (by omega) (by omega) (gok1_c (k := k) (by omega) (by omega) (by omega)) | (refine ⟨by omega, fun i a b => ?_⟩; first | (exfalso; omega) | (by_cases e : i = k; (rw [e]; omega); exact I2.2 i a (by omega)) | (by_cases e : i = j; (rw [e]; exact gok1_z (by assumption) (fun q a b => I2.2 q a (by omega))); exact I1.2 i a (by omega))) | exact gok_all (fun i a b => I1.2 i a (by omega)) | fail
    · refine ⟨rfl, ?_⟩
      -- 2: (0 : Int) = y2
      first | omega | rfl | exact ⟨by omega, fun i a b => by omega⟩ | exact gok_no (j := j) (by omega) (by omega) (gok1_a (by assumption)) | exact gok_no (j := j) (by omega) (by omega) (gok1_c (k := k) (by omega) (by omega) (by omega)) | (refine ⟨by omega, fun i a b => ?_⟩; first | (exfalso; omega) | (by_cases e : i = k; (rw [e]; omega); exact I2.2 i a (by omega)) | (by_cases e : i = j; (rw [e]; exact gok1_z (by assumption) (fun q a b => I2.2 q a (by omega))); exact I1.2 i a (by omega))) | exact gok_all (fun i a b => I1.2 i a (by omega)) | fail
  · intro j
    intro I1
    refine ⟨?_, ?_⟩
    · intro c15
      refine ⟨?_, ?_, ⟨rfl, rfl⟩, ?_, ?_⟩
        -- 3: ((0 ≤ x1) ∧ (x1 < n))
      · first | omega | rfl | exact ⟨by omega, fun i a b => by omega⟩ | exact gok_no (j := j) (by omega) (by omega) (gok1_a (by assumption)) | exact gok_no (j := j) (by omega) (by omega) (gok1_c (k := k) (by omega) (by omega) (by omega)) | (refine ⟨by omega, fun i a b => ?_⟩; first | (exfalso; omega) | (by_cases e : i = k; (rw [e]; omega); exact I2.2 i a (by omega)) | (by_cases e : i = j; (rw [e]; exact gok1_z (by assumption) (fun q a b => I2.2 q a (by omega))); exact I1.2 i a (by omega))) | exact gok_all (fun i a b => I1.2 i a (by omega)) | fail
        -- 4: x1 < n
      · first | omega | rfl | exact ⟨by omega, fun i a b => by omega⟩ | exact gok_no (j := j) (by omega) (by omega) (gok1_a (by assumption)) | exact gok_no (j := j) (by omega) (by omega) (gok1_c (k := k) (by omega) (by omega) (by omega)) | (refine ⟨by omega, fun i a b => ?_⟩; first | (exfalso; omega) | (by_cases e : i = k; (rw [e]; omega); exact I2.2 i a (by omega)) | (by_cases e : i = j; (rw [e]; exact gok1_z (by assumption) (fun q a b => I2.2 q a (by omega))); exact I1.2 i a (by omega))) | exact gok_all (fun i a b => I1.2 i a (by omega)) | fail
      · intro c16
        refine ⟨?_, Int.le_refl _, fun _ => fun _ => ⟨rfl, rfl⟩⟩
        -- 5: (gok X Y n) = false
        first | omega | rfl | exact ⟨by omega, fun i a b => by omega⟩ | exact gok_no (j := j) (by omega) (by omega) (gok1_a (by assumption)) | exact gok_no (j := j) (by omega) (by omega) (gok1_c (k := k) (by omega) (by omega) (by omega)) | (refine ⟨by omega, fun i a b => ?_⟩; first | (exfalso; omega) | (by_cases e : i = k; (rw [e]; omega); exact I2.2 i a (by omega)) | (by_cases e : i = j; (rw [e]; exact gok1_z (by assumption) (fun q a b => I2.2 q a (by omega))); exact I1.2 i a (by omega))) | exact gok_all (fun i a b => I1.2 i a (by omega)) | fail
      · intro c17
        refine ⟨?_, ?_⟩
        · refine ⟨0, ?_⟩
          try dsimp only
          refine ⟨?_, ?_, Int.le_refl _, fun _ => fun _ => ⟨rfl, rfl⟩⟩
            -- 6: (0 ≤ y6 ∧ y6 ≤ x1 ∧ x1 < n) ∧ ∀ i, 0 ≤ i → i < y6 → ¬ ((X (i)) = (X (x1)) ∧ (Y (i)) = (Y (x1)))
          · first | omega | rfl | exact ⟨by omega, fun i a b => by omega⟩ | exact gok_no (j := j) (by omega) (by omega) (gok1_a (by assumption)) | exact gok_no (j := j) (by omega) (by omega) (gok1_c (k := k) (by omega) (by omega) (by omega)) | (refine ⟨by omega, fun i a b => ?_⟩; first | (exfalso; omega) | (by_cases e : i = k; (rw [e]; omega); exact I2.2 i a (by omega)) | (by_cases e : i = j; (rw [e]; exact gok1_z (by assumption) (fun q a b => I2.2 q a (by omega))); exact I1.2 i a (by omega))) | exact gok_all (fun i a b => I1.2 i a (by omega)) | fail
          · refine ⟨rfl, rfl, ?_, rfl, rfl, rfl, Iff.rfl, rfl, rfl, rfl, ⟨rfl, rfl⟩, Iff.rfl, Iff.rfl⟩
            -- 7: (0 : Int) = y6
            first | omega | rfl | exact ⟨by omega, fun i a b => by omega⟩ | exact gok_no (j := j) (by omega) (by omega) (gok1_a (by assumption)) | exact gok_no (j := j) (by omega) (by omega) (gok1_c (k := k) (by omega) (by omega) (by omega)) | (refine ⟨by omega, fun i a b => ?_⟩; first | (exfalso; omega) | (by_cases e : i = k; (rw [e]; omega); exact I2.2 i a (by omega)) | (by_cases e : i = j; (rw [e]; exact gok1_z (by assumption) (fun q a b => I2.2 q a (by omega))); exact I1.2 i a (by omega))) | exact gok_all (fun i a b => I1.2 i a (by omega)) | fail
        · intro k
          intro I2
          refine ⟨?_, ?_⟩
          · intro c18
            refine ⟨?_, ?_, ?_, ?_, ?_, ?_⟩
              -- 8: ((0 ≤ x5) ∧ (x5 < n))
            · first | omega | rfl | exact ⟨by omega, fun i a b => by omega⟩ | exact gok_no (j := j) (by omega) (by omega) (gok1_a (by assumption)) | exact gok_no (j := j) (by omega) (by omega) (gok1_c (k := k) (by omega) (by omega) (by omega)) | (refine ⟨by omega, fun i a b => ?_⟩; first | (exfalso; omega) | (by_cases e : i = k; (rw [e]; omega); exact I2.2 i a (by omega)) | (by_cases e : i = j; (rw [e]; exact gok1_z (by assumption) (fun q a b => I2.2 q a (by omega))); exact I1.2 i a (by omega))) | exact gok_all (fun i a b => I1.2 i a (by omega)) | fail
              -- 9: x5 < n
            · first | omega | rfl | exact ⟨by omega, fun i a b => by omega⟩ | exact gok_no (j := j) (by omega) (by omega) (gok1_a (by assumption)) | exact gok_no (j := j) (by omega) (by omega) (gok1_c (k := k) (by omega) (by omega) (by omega)) | (refine ⟨by omega, fun i a b => ?_⟩; first | (exfalso; omega) | (by_cases e : i = k; (rw [e]; omega); exact I2.2 i a (by omega)) | (by_cases e : i = j; (rw [e]; exact gok1_z (by assumption) (fun q a b => I2.2 q a (by omega))); exact I1.2 i a (by omega))) | exact gok_all (fun i a b => I1.2 i a (by omega)) | fail
              -- 10: ((0 ≤ x1) ∧ (x1 < n))
            · first | omega | rfl | exact ⟨by omega, fun i a b => by omega⟩ | exact gok_no (j := j) (by omega) (by omega) (gok1_a (by assumption)) | exact gok_no (j := j) (by omega) (by omega) (gok1_c (k := k) (by omega) (by omega) (by omega)) | (refine ⟨by omega, fun i a b => ?_⟩; first | (exfalso; omega) | (by_cases e : i = k; (rw [e]; omega); exact I2.2 i a (by omega)) | (by_cases e : i = j; (rw [e]; exact gok1_z (by assumption) (fun q a b => I2.2 q a (by omega))); exact I1.2 i a (by omega))) | exact gok_all (fun i a b => I1.2 i a (by omega)) | fail
              -- 11: x1 < n
            · first | omega | rfl | exact ⟨by omega, fun i a b => by omega⟩ | exact gok_no (j := j) (by omega) (by omega) (gok1_a (by assumption)) | exact gok_no (j := j) (by omega) (by omega) (gok1_c (k := k) (by omega) (by omega) (by omega)) | (refine ⟨by omega, fun i a b => ?_⟩; first | (exfalso; omega) | (by_cases e : i = k; (rw [e]; omega); exact I2.2 i a (by omega)) | (by_cases e : i = j; (rw [e]; exact gok1_z (by assumption) (fun q a b => I2.2 q a (by omega))); exact I1.2 i a (by omega))) | exact gok_all (fun i a b => I1.2 i a (by omega)) | fail
            · intro c19
              refine ⟨?_, Int.le_refl _, fun _ => fun _ => ⟨rfl, rfl⟩⟩
              -- 12: (gok X Y n) = false
              first | omega | rfl | exact ⟨by omega, fun i a b => by omega⟩ | exact gok_no (j := j) (by omega) (by omega) (gok1_a (by assumption)) | exact gok_no (j := j) (by omega) (by omega) (gok1_c (k := k) (by omega) (by omega) (by omega)) | (refine ⟨by omega, fun i a b => ?_⟩; first | (exfalso; omega) | (by_cases e : i = k; (rw [e]; omega); exact I2.2 i a (by omega)) | (by_cases e : i = j; (rw [e]; exact gok1_z (by assumption) (fun q a b => I2.2 q a (by omega))); exact I1.2 i a (by omega))) | exact gok_all (fun i a b => I1.2 i a (by omega)) | fail
            · intro c20
              refine ⟨k + 1, ?_⟩
              try dsimp only
              refine ⟨?_, ?_, ?_⟩
                -- 13: (0 ≤ y9 ∧ y9 ≤ x1 ∧ x1 < n) ∧ ∀ i, 0 ≤ i → i < y9 → ¬ ((X (i)) = (X (x1)) ∧ (Y (i)) = (Y (x1)))
              · first | omega | rfl | exact ⟨by omega, fun i a b => by omega⟩ | exact gok_no (j := j) (by omega) (by omega) (gok1_a (by assumption)) | exact gok_no (j := j) (by omega) (by omega) (gok1_c (k := k) (by omega) (by omega) (by omega)) | (refine ⟨by omega, fun i a b => ?_⟩; first | (exfalso; omega) | (by_cases e : i = k; (rw [e]; omega); exact I2.2 i a (by omega)) | (by_cases e : i = j; (rw [e]; exact gok1_z (by assumption) (fun q a b => I2.2 q a (by omega))); exact I1.2 i a (by omega))) | exact gok_all (fun i a b => I1.2 i a (by omega)) | fail
              · refine ⟨?_, Int.le_refl _, fun _ => fun _ => ⟨rfl, rfl⟩⟩
                refine ⟨rfl, rfl, ?_, rfl, rfl, rfl, Iff.rfl, rfl, rfl, rfl, ⟨rfl, rfl⟩, Iff.rfl, Iff.rfl⟩
                refine ⟨?_, ?_⟩
                  -- 14: (x5 + 1) = y9
                · first | omega | rfl | exact ⟨by omega, fun i a b => by omega⟩ | exact gok_no (j := j) (by omega) (by omega) (gok1_a (by assumption)) | exact gok_no (j := j) (by omega) (by omega) (gok1_c (k := k) (by omega) (by omega) (by omega)) | (refine ⟨by omega, fun i a b => ?_⟩; first | (exfalso; omega) | (by_cases e : i = k; (rw [e]; omega); exact I2.2 i a (by omega)) | (by_cases e : i = j; (rw [e]; exact gok1_z (by assumption) (fun q a b => I2.2 q a (by omega))); exact I1.2 i a (by omega))) | exact gok_all (fun i a b => I1.2 i a (by omega)) | fail
                · intro c21
                  -- 15: 0 ≤ y9 ∧ y9 ≤ 1048576
                  first | omega | rfl | exact ⟨by omega, fun i a b => by omega⟩ | exact gok_no (j := j) (by omega) (by omega) (gok1_a (by assumption)) | exact gok_no (j := j) (by omega) (by omega) (gok1_c (k := k) (by omega) (by omega) (by omega)) | (refine ⟨by omega, fun i a b => ?_⟩; first | (exfalso; omega) | (by_cases e : i = k; (rw [e]; omega); exact I2.2 i a (by omega)) | (by_cases e : i = j; (rw [e]; exact gok1_z (by assumption) (fun q a b => I2.2 q a (by omega))); exact I1.2 i a (by omega))) | exact gok_all (fun i a b => I1.2 i a (by omega)) | fail
                -- 16: (x1 - y9).toNat < (x1 - x5).toNat
              · first | omega | rfl | exact ⟨by omega, fun i a b => by omega⟩ | exact gok_no (j := j) (by omega) (by omega) (gok1_a (by assumption)) | exact gok_no (j := j) (by omega) (by omega) (gok1_c (k := k) (by omega) (by omega) (by omega)) | (refine ⟨by omega, fun i a b => ?_⟩; first | (exfalso; omega) | (by_cases e : i = k; (rw [e]; omega); exact I2.2 i a (by omega)) | (by_cases e : i = j; (rw [e]; exact gok1_z (by assumption) (fun q a b => I2.2 q a (by omega))); exact I1.2 i a (by omega))) | exact gok_all (fun i a b => I1.2 i a (by omega)) | fail
          · intro c22
            refine ⟨j + 1, ?_⟩
            try dsimp only
            refine ⟨?_, ?_, ?_⟩
              -- 17: (0 ≤ y11 ∧ y11 ≤ n) ∧ ∀ i, 0 ≤ i → i < y11 → gok1 X Y i = true
            · first | omega | rfl | exact ⟨by omega, fun i a b => by omega⟩ | exact gok_no (j := j) (by omega) (by omega) (gok1_a (by assumption)) | exact gok_no (j := j) (by omega) (by omega) (gok1_c (k := k) (by omega) (by omega) (by omega)) | (refine ⟨by omega, fun i a b => ?_⟩; first | (exfalso; omega) | (by_cases e : i = k; (rw [e]; omega); exact I2.2 i a (by omega)) | (by_cases e : i = j; (rw [e]; exact gok1_z (by assumption) (fun q a b => I2.2 q a (by omega))); exact I1.2 i a (by omega))) | exact gok_all (fun i a b => I1.2 i a (by omega)) | fail
            · refine ⟨?_, Int.le_refl _, fun _ => fun _ => ⟨rfl, rfl⟩⟩
              refine ⟨rfl, ?_, ?_⟩
                -- 18: (x1 + 1) = y11
              · first | omega | rfl | exact ⟨by omega, fun i a b => by omega⟩ | exact gok_no (j := j) (by omega) (by omega) (gok1_a (by assumption)) | exact gok_no (j := j) (by omega) (by omega) (gok1_c (k := k) (by omega) (by omega) (by omega)) | (refine ⟨by omega, fun i a b => ?_⟩; first | (exfalso; omega) | (by_cases e : i = k; (rw [e]; omega); exact I2.2 i a (by omega)) | (by_cases e : i = j; (rw [e]; exact gok1_z (by assumption) (fun q a b => I2.2 q a (by omega))); exact I1.2 i a (by omega))) | exact gok_all (fun i a b => I1.2 i a (by omega)) | fail
              · intro c23
                -- 19: 0 ≤ y11 ∧ y11 ≤ 1048576
                first | omega | rfl | exact ⟨by omega, fun i a b => by omega⟩ | exact gok_no (j := j) (by omega) (by omega) (gok1_a (by assumption)) | exact gok_no (j := j) (by omega) (by omega) (gok1_c (k := k) (by omega) (by omega) (by omega)) | (refine ⟨by omega, fun i a b => ?_⟩; first | (exfalso; omega) | (by_cases e : i = k; (rw [e]; omega); exact I2.2 i a (by omega)) | (by_cases e : i = j; (rw [e]; exact gok1_z (by assumption) (fun q a b => I2.2 q a (by omega))); exact I1.2 i a (by omega))) | exact gok_all (fun i a b => I1.2 i a (by omega)) | fail
              -- 20: (n - y11).toNat < (n - x1).toNat
            · first | omega | rfl | exact ⟨by omega, fun i a b => by omega⟩ | exact gok_no (j := j) (by omega) (by omega) (gok1_a (by assumption)) | exact gok_no (j := j) (by omega) (by omega) (gok1_c (k := k) (by omega) (by omega) (by omega)) | (refine ⟨by omega, fun i a b => ?_⟩; first | (exfalso; omega) | (by_cases e : i = k; (rw [e]; omega); exact I2.2 i a (by omega)) | (by_cases e : i = j; (rw [e]; exact gok1_z (by assumption) (fun q a b => I2.2 q a (by omega))); exact I1.2 i a (by omega))) | exact gok_all (fun i a b => I1.2 i a (by omega)) | fail
    · intro c24
      refine ⟨?_, Int.le_refl _, fun _ => fun _ => ⟨rfl, rfl⟩⟩
      -- 21: (n ≤ 8) ↔ ((gok X Y n) = true)
      first | omega | rfl | exact ⟨by omega, fun i a b => by omega⟩ | exact gok_no (j := j) (by omega) (by omega) (gok1_a (by assumption)) | exact gok_no (j := j) (by omega) (by omega) (gok1_c (k := k) (by omega) (by omega) (by omega)) | (refine ⟨by omega, fun i a b => ?_⟩; first | (exfalso; omega) | (by_cases e : i = k; (rw [e]; omega); exact I2.2 i a (by omega)) | (by_cases e : i = j; (rw [e]; exact gok1_z (by assumption) (fun q a b => I2.2 q a (by omega))); exact I1.2 i a (by omega))) | exact gok_all (fun i a b => I1.2 i a (by omega)) | fail
def c_s_validGraphs (X : Int → Int) (Y : Int → Int) (n : Int) : Cn Try.prog := ⟨_, _, _, _, _, s_validGraphs X Y n⟩
end Go.Proofs.Ytbldachljmhfjaa
