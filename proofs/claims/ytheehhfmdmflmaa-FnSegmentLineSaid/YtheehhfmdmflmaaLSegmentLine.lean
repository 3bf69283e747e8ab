/- FnSegmentLine: the walk. -/
import Derived.Test.YtheehhfmdmflmaaK14
import Derived.Test.YtheehhfmdmflmaaLLineThrough
set_option linter.unusedSimpArgs false
set_option linter.unusedVariables false
set_option maxRecDepth 100000
namespace Go.Proofs.Ytheehhfmdmflmaa
open Go.Sym
/-- A point of a segment lies on its line. -/
theorem seg_line {aX aY bX bY x y : Int} (h : onSeg aX aY bX bY x y = true) (hk : okL (liA aX aY bX bY) (liB aX aY bX bY) (liC aX aY bX bY) = true) : ltOK aX aY bX bY = true ∧ sideL (liA aX aY bX bY) (liB aX aY bX bY) (liC aX aY bX bY) x y = 0 := by
  simp only [onSeg, okS, onB, Bool.and_eq_true, Bool.not_eq_true', Bool.and_eq_false_iff, decide_eq_false_iff_not, decide_eq_true_eq] at h
  obtain ⟨⟨⟨ha, hb⟩, hne⟩, hp, ht, _⟩ := h
  have hne : aX ≠ bX ∨ aY ≠ bY := hne
  have l1 := li_ok ha hb hne
  refine ⟨l1.1, ?_⟩
  simp only [sideL, hk, hp, Bool.and_self, if_true]
  rw [l1.2.2.1, l1.2.2.2.1, l1.2.2.2.2]
  have hg := l1.2.1
  have h1 := gcdI_right (bX - aX) (bY - aY)
  have h2 := gcdI_left (bX - aX) (bY - aY)
  unfold trn at ht
  have key : ltA (bX - aX) (bY - aY) * x + ltB (bX - aX) (bY - aY) * y - (ltA (bX - aX) (bY - aY) * aX + ltB (bX - aX) (bY - aY) * aY) = 0 := by
    unfold ltA ltB
    generalize gcdI (bX - aX) (bY - aY) = g at *
    obtain ⟨u, hu⟩ := h1
    obtain ⟨v, hv⟩ := h2
    have hu' : (bY - aY) / g = u := by rw [hu, Int.mul_ediv_cancel_left _ (by omega)]
    have hv' : (bX - aX) / g = v := by rw [hv, Int.mul_ediv_cancel_left _ (by omega)]
    rw [hu', hv']
    rw [hu, hv] at ht
    have e : v * (y - aY) - u * (x - aX) = 0 := by
      refine (Int.mul_eq_zero.1 (?_ : g * (v * (y - aY) - u * (x - aX)) = 0)).resolve_left (by omega)
      rw [← ht]; grind
    split <;> grind
  rw [key]; rfl
theorem seg_line2 {aX aY bX bY x y : Int} (h : onSeg aX aY bX bY x y = true) : ltOK aX aY bX bY = true ∧ sideL (liA aX aY bX bY) (liB aX aY bX bY) (liC aX aY bX bY) x y = 0 := by
  have h' := h
  simp only [onSeg, okS, Bool.and_eq_true] at h'
  have ho : ltOK aX aY bX bY = true := by
    simp only [ltOK, Bool.and_eq_true]
    exact ⟨⟨h'.1.1.1, h'.1.1.2⟩, h'.1.2⟩
  exact seg_line h (lt_law ho).1.1
theorem l_FnSegmentLine (C : Int → Int) (n : Int) : RunsTo Try.prog 3 [(.sl 0 1 (.lit 0) (.v fun _ => n) 9223372036854775807)] [some ⟨5, 1, false, (.sym (.v fun _ => n) fun e => [(.int .u8 (.v fun _ => (C (e.den))) 0 255)])⟩] (.bool (.lit true)) [none] := by
  refine RunsTo.go env Try.func3 rfl Try.call3 rfl rfl (fun _ _ => (.ite .ret (.callF (c_s_DrawOnSegment C n) (.call (c_i_OnSegment (s1 C n) (s2 C n) (s3 C n) (s4 C n) (osX C n) (osY C n)) (.call (c_s_OnSegment (s1 C n) (s2 C n) (s3 C n) (s4 C n) (osX C n) (osY C n)) (.ite (.call (c_s_OnSegment (s1 C n) (s2 C n) (s3 C n) (s4 C n) (osX C n) (osY C n)) .ret) (.ite (.call (c_s_OnSegment (s1 C n) (s2 C n) (s3 C n) (s4 C n) (osX C n) (osY C n)) .ret) (.callF (c_i_LineThrough (s1 C n) (s2 C n) (s3 C n) (s4 C n)) (.ite (.callF (c_i_SideOf (liA (s1 C n) (s2 C n) (s3 C n) (s4 C n)) (liB (s1 C n) (s2 C n) (s3 C n) (s4 C n)) (liC (s1 C n) (s2 C n) (s3 C n) (s4 C n)) (osX C n) (osY C n)) .ret) .ret))))))))) (G := (0 ≤ n ∧ n ≤ 9223372036854775807) → (∀ e2 : E, ((0 ≤ e2.den ∧ e2.den < n) → (0 ≤ ((C (e2.den))) ∧ ((C (e2.den))) ≤ 255))) → ((n ≤ 1048576) → ((n = n) ∧ (((n ≤ n) ∧ (∀ e1 : E, ((0 ≤ e1.den ∧ e1.den < n) → (((C (e1.den))) = ((C (e1.den))))))) ∧ (((((-1001) ≤ (s1 C n) ∧ (s1 C n) ≤ 1001) ∧ (((-1001) ≤ (s2 C n) ∧ (s2 C n) ≤ 1001) ∧ (((-1001) ≤ (s3 C n) ∧ (s3 C n) ≤ 1001) ∧ ((-1001) ≤ (s4 C n) ∧ (s4 C n) ≤ 1001)))) ∧ (((-2002) ≤ (osX C n) ∧ (osX C n) ≤ 2002) ∧ ((-2002) ≤ (osY C n) ∧ (osY C n) ≤ 2002))) → (((((s1 C n) = (s1 C n)) ∧ (((s2 C n) = (s2 C n)) ∧ (((s3 C n) = (s3 C n)) ∧ ((s4 C n) = (s4 C n))))) ∧ (((osX C n) = (osX C n)) ∧ ((osY C n) = (osY C n)))) ∧ (((((s1 C n) = (s1 C n)) ∧ (((s2 C n) = (s2 C n)) ∧ (((s3 C n) = (s3 C n)) ∧ ((s4 C n) = (s4 C n))))) ∧ (((osX C n) = (osX C n)) ∧ ((osY C n) = (osY C n)))) ∧ ((((((onSeg (s1 C n) (s2 C n) (s3 C n) (s4 C n) (osX C n) (osY C n)) = true) ↔ ((onSeg (s1 C n) (s2 C n) (s3 C n) (s4 C n) (osX C n) (osY C n)) = false))) → (((((s1 C n) = (s1 C n)) ∧ (((s2 C n) = (s2 C n)) ∧ (((s3 C n) = (s3 C n)) ∧ ((s4 C n) = (s4 C n))))) ∧ (((osX C n) = (osX C n)) ∧ ((osY C n) = (osY C n)))) ∧ ((((onSeg (s1 C n) (s2 C n) (s3 C n) (s4 C n) (osX C n) (osY C n)) = true) ↔ ((onSeg (s1 C n) (s2 C n) (s3 C n) (s4 C n) (osX C n) (osY C n)) = true))))) ∧ (((((onSeg (s1 C n) (s2 C n) (s3 C n) (s4 C n) (osX C n) (osY C n)) = true) ↔ ((onSeg (s1 C n) (s2 C n) (s3 C n) (s4 C n) (osX C n) (osY C n)) = true))) → ((((onSeg (s1 C n) (s2 C n) (s3 C n) (s4 C n) (osX C n) (osY C n)) = false) → (((((s1 C n) = (s1 C n)) ∧ (((s2 C n) = (s2 C n)) ∧ (((s3 C n) = (s3 C n)) ∧ ((s4 C n) = (s4 C n))))) ∧ (((osX C n) = (osX C n)) ∧ ((osY C n) = (osY C n)))) ∧ ((((onSeg (s1 C n) (s2 C n) (s3 C n) (s4 C n) (osX C n) (osY C n)) = true) ↔ ((onSeg (s1 C n) (s2 C n) (s3 C n) (s4 C n) (osX C n) (osY C n)) = true))))) ∧ (((onSeg (s1 C n) (s2 C n) (s3 C n) (s4 C n) (osX C n) (osY C n)) = true) → (((((s1 C n) = (s1 C n)) ∧ ((s2 C n) = (s2 C n))) ∧ (((s3 C n) = (s3 C n)) ∧ ((s4 C n) = (s4 C n)))) ∧ ((((-10000000) ≤ (liA (s1 C n) (s2 C n) (s3 C n) (s4 C n)) ∧ (liA (s1 C n) (s2 C n) (s3 C n) (s4 C n)) ≤ 10000000) ∧ (((-10000000) ≤ (liB (s1 C n) (s2 C n) (s3 C n) (s4 C n)) ∧ (liB (s1 C n) (s2 C n) (s3 C n) (s4 C n)) ≤ 10000000) ∧ ((-10000000) ≤ (liC (s1 C n) (s2 C n) (s3 C n) (s4 C n)) ∧ (liC (s1 C n) (s2 C n) (s3 C n) (s4 C n)) ≤ 10000000))) → ((((ltOK (s1 C n) (s2 C n) (s3 C n) (s4 C n)) = true) → (((((liA (s1 C n) (s2 C n) (s3 C n) (s4 C n)) = (liA (s1 C n) (s2 C n) (s3 C n) (s4 C n))) ∧ (((liB (s1 C n) (s2 C n) (s3 C n) (s4 C n)) = (liB (s1 C n) (s2 C n) (s3 C n) (s4 C n))) ∧ ((liC (s1 C n) (s2 C n) (s3 C n) (s4 C n)) = (liC (s1 C n) (s2 C n) (s3 C n) (s4 C n))))) ∧ (((osX C n) = (osX C n)) ∧ ((osY C n) = (osY C n)))) ∧ (((-1) ≤ (sideL (liA (s1 C n) (s2 C n) (s3 C n) (s4 C n)) (liB (s1 C n) (s2 C n) (s3 C n) (s4 C n)) (liC (s1 C n) (s2 C n) (s3 C n) (s4 C n)) (osX C n) (osY C n)) ∧ (sideL (liA (s1 C n) (s2 C n) (s3 C n) (s4 C n)) (liB (s1 C n) (s2 C n) (s3 C n) (s4 C n)) (liC (s1 C n) (s2 C n) (s3 C n) (s4 C n)) (osX C n) (osY C n)) ≤ 2) → ((sideL (liA (s1 C n) (s2 C n) (s3 C n) (s4 C n)) (liB (s1 C n) (s2 C n) (s3 C n) (s4 C n)) (liC (s1 C n) (s2 C n) (s3 C n) (s4 C n)) (osX C n) (osY C n)) = 0)))) ∧ (((ltOK (s1 C n) (s2 C n) (s3 C n) (s4 C n)) = false) → (False)))))))))))))))) (by kernel_rfl) ?_
  intro h1 h2
  intro c3
  refine ⟨rfl, ⟨Int.le_refl _, fun _ => fun _ => rfl⟩, ?_⟩
  intro c4
  refine ⟨⟨⟨rfl, ⟨rfl, ⟨rfl, rfl⟩⟩⟩, ⟨rfl, rfl⟩⟩, ⟨⟨rfl, ⟨rfl, ⟨rfl, rfl⟩⟩⟩, ⟨rfl, rfl⟩⟩, ?_, ?_⟩
  · intro c5
    refine ⟨⟨⟨rfl, ⟨rfl, ⟨rfl, rfl⟩⟩⟩, ⟨rfl, rfl⟩⟩, ?_⟩
    -- 1: (((onSeg (s1 C n) (s2 C n) (s3 C n) (s4 C n) (osX C n) (osY C n)) = true) ↔ ((onSeg (s1 C n) (s2 C n
    first | rfl | omega | (simp_all; done) | (have hh := seg_line2 (show onSeg (s1 C n) (s2 C n) (s3 C n) (s4 C n) (osX C n) (osY C n) = true by assumption); first | exact hh.1 | exact hh.2 | (simp_all; done))
  · intro c6
    refine ⟨?_, ?_⟩
    · intro c7
      refine ⟨⟨⟨rfl, ⟨rfl, ⟨rfl, rfl⟩⟩⟩, ⟨rfl, rfl⟩⟩, ?_⟩
      -- 2: (((onSeg (s1 C n) (s2 C n) (s3 C n) (s4 C n) (osX C n) (osY C n)) = true) ↔ ((onSeg (s1 C n) (s2 C n
      first | rfl | omega | (simp_all; done) | (have hh := seg_line2 (show onSeg (s1 C n) (s2 C n) (s3 C n) (s4 C n) (osX C n) (osY C n) = true by assumption); first | exact hh.1 | exact hh.2 | (simp_all; done))
    · intro c8
      refine ⟨⟨⟨rfl, rfl⟩, ⟨rfl, rfl⟩⟩, ?_⟩
      intro c9
      refine ⟨?_, ?_⟩
      · intro c10
        refine ⟨⟨⟨rfl, ⟨rfl, rfl⟩⟩, ⟨rfl, rfl⟩⟩, ?_⟩
        intro c11
        -- 3: (sideL (liA (s1 C n) (s2 C n) (s3 C n) (s4 C n)) (liB (s1 C n) (s2 C n) (s3 C n) (s4 C n)) (liC (s1 
        first | rfl | omega | (simp_all; done) | (have hh := seg_line2 (show onSeg (s1 C n) (s2 C n) (s3 C n) (s4 C n) (osX C n) (osY C n) = true by assumption); first | exact hh.1 | exact hh.2 | (simp_all; done))
      · intro c12
        -- 4: False
        first | rfl | omega | (simp_all; done) | (have hh := seg_line2 (show onSeg (s1 C n) (s2 C n) (s3 C n) (s4 C n) (osX C n) (osY C n) = true by assumption); first | exact hh.1 | exact hh.2 | (simp_all; done))
def c_l_FnSegmentLine (C : Int → Int) (n : Int) : Cn Try.prog := ⟨_, _, _, _, _, l_FnSegmentLine C n⟩
end Go.Proofs.Ytheehhfmdmflmaa
