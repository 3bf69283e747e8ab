/- FnRelationEnds: the walk. -/
import Derived.Test.YtoielngedkbmbaaK20
set_option linter.unusedSimpArgs false
set_option linter.unusedVariables false
set_option maxRecDepth 100000
namespace Go.Proofs.Ytoielngedkbmbaa
open Go.Sym
theorem on_of {ax ay bx bY px py : Int} (hs : okS ax ay bx bY = true) (hp : okP px py = true) : onSeg ax ay bx bY px py = onB ax ay bx bY px py := by unfold onSeg; rw [hs, hp]; simp
theorem okS_P {ax ay bx bY : Int} (h : okS ax ay bx bY = true) : okP ax ay = true ∧ okP bx bY = true := by
  unfold okS at h
  simp only [Bool.and_eq_true] at h
  exact h.1
theorem ends_on {sAX sAY sBX sBY tAX tAY tBX tBY : Int} (h : 0 ≤ relR sAX sAY sBX sBY tAX tAY tBX tBY) :
    (onSeg sAX sAY sBX sBY tAX tAY = true ∨ onSeg sAX sAY sBX sBY tBX tBY = true ∨ onSeg tAX tAY tBX tBY sAX sAY = true ∨ onSeg tAX tAY tBX tBY sBX sBY = true) ↔ (relR sAX sAY sBX sBY tAX tAY tBX tBY = 1 ∨ relR sAX sAY sBX sBY tAX tAY tBX tBY = 3) := by
  obtain ⟨hs, ht, _⟩ := relR_pos' h
  rw [on_of hs (okS_P ht).1, on_of hs (okS_P ht).2, on_of ht (okS_P hs).1, on_of ht (okS_P hs).2]
  exact ends_law h
theorem l_FnRelationEnds (C : Int → Int) (n : Int) : RunsTo Try.prog 6 [(.sl 0 1 (.lit 0) (.v fun _ => n) 9223372036854775807)] [some ⟨5, 1, false, (.sym (.v fun _ => n) fun e => [(.int .u8 (.v fun _ => (C (e.den))) 0 255)])⟩] (.bool (.lit true)) [none] := by
  refine RunsTo.go env Try.func6 rfl Try.call6 rfl rfl (fun _ _ => (.ite .ret (.callF (c_s_DrawRelation C n) (.callF (c_i_Relation (aAX C n) (aAY C n) (aBX C n) (aBY C n) (bAX C n) (bAY C n) (bBX C n) (bBY C n)) (.callF (c_s_Relation (aAX C n) (aAY C n) (aBX C n) (aBY C n) (bAX C n) (bAY C n) (bBX C n) (bBY C n)) (.ite (.callF (c_s_Relation (aAX C n) (aAY C n) (aBX C n) (aBY C n) (bAX C n) (bAY C n) (bBX C n) (bBY C n)) .ret) (.ite (.callF (c_s_Relation (aAX C n) (aAY C n) (aBX C n) (aBY C n) (bAX C n) (bAY C n) (bBX C n) (bBY C n)) .ret) (.call (c_i_wOnSegment (aAX C n) (aAY C n) (aBX C n) (aBY C n) (bAX C n) (bAY C n)) (.ite (.ite .ret .ret) (.call (c_i_wOnSegment (aAX C n) (aAY C n) (aBX C n) (aBY C n) (bBX C n) (bBY C n)) (.ite (.ite .ret .ret) (.call (c_i_wOnSegment (bAX C n) (bAY C n) (bBX C n) (bBY C n) (aAX C n) (aAY C n)) (.ite (.ite .ret .ret) (.call (c_i_wOnSegment (bAX C n) (bAY C n) (bBX C n) (bBY C n) (aBX C n) (aBY C n)) (.ite .ret .ret))))))))))))))) (G := (0 ≤ n ∧ n ≤ 9223372036854775807) → (∀ e2 : E, ((0 ≤ e2.den ∧ e2.den < n) → (0 ≤ ((C (e2.den))) ∧ ((C (e2.den))) ≤ 255))) → ((n ≤ 1048576) → ((n = n) ∧ (((n ≤ n) ∧ (∀ e1 : E, ((0 ≤ e1.den ∧ e1.den < n) → (((C (e1.den))) = ((C (e1.den))))))) ∧ (((((-1001) ≤ (aAX C n) ∧ (aAX C n) ≤ 1001) ∧ (((-1001) ≤ (aAY C n) ∧ (aAY C n) ≤ 1001) ∧ (((-1001) ≤ (aBX C n) ∧ (aBX C n) ≤ 1001) ∧ ((-1001) ≤ (aBY C n) ∧ (aBY C n) ≤ 1001)))) ∧ (((-3003) ≤ (bAX C n) ∧ (bAX C n) ≤ 3003) ∧ (((-3003) ≤ (bAY C n) ∧ (bAY C n) ≤ 3003) ∧ (((-3003) ≤ (bBX C n) ∧ (bBX C n) ≤ 3003) ∧ ((-3003) ≤ (bBY C n) ∧ (bBY C n) ≤ 3003))))) → (((((aAX C n) = (aAX C n)) ∧ (((aAY C n) = (aAY C n)) ∧ (((aBX C n) = (aBX C n)) ∧ ((aBY C n) = (aBY C n))))) ∧ (((bAX C n) = (bAX C n)) ∧ (((bAY C n) = (bAY C n)) ∧ (((bBX C n) = (bBX C n)) ∧ ((bBY C n) = (bBY C n)))))) ∧ (((-1) ≤ (relR (aAX C n) (aAY C n) (aBX C n) (aBY C n) (bAX C n) (bAY C n) (bBX C n) (bBY C n)) ∧ (relR (aAX C n) (aAY C n) (aBX C n) (aBY C n) (bAX C n) (bAY C n) (bBX C n) (bBY C n)) ≤ 3) → (((((aAX C n) = (aAX C n)) ∧ (((aAY C n) = (aAY C n)) ∧ (((aBX C n) = (aBX C n)) ∧ ((aBY C n) = (aBY C n))))) ∧ (((bAX C n) = (bAX C n)) ∧ (((bAY C n) = (bAY C n)) ∧ (((bBX C n) = (bBX C n)) ∧ ((bBY C n) = (bBY C n)))))) ∧ (((-1) ≤ (relR (aAX C n) (aAY C n) (aBX C n) (aBY C n) (bAX C n) (bAY C n) (bBX C n) (bBY C n)) ∧ (relR (aAX C n) (aAY C n) (aBX C n) (aBY C n) (bAX C n) (bAY C n) (bBX C n) (bBY C n)) ≤ 3) → ((((relR (aAX C n) (aAY C n) (aBX C n) (aBY C n) (bAX C n) (bAY C n) (bBX C n) (bBY C n)) ≠ (relR (aAX C n) (aAY C n) (aBX C n) (aBY C n) (bAX C n) (bAY C n) (bBX C n) (bBY C n))) → (((((aAX C n) = (aAX C n)) ∧ (((aAY C n) = (aAY C n)) ∧ (((aBX C n) = (aBX C n)) ∧ ((aBY C n) = (aBY C n))))) ∧ (((bAX C n) = (bAX C n)) ∧ (((bAY C n) = (bAY C n)) ∧ (((bBX C n) = (bBX C n)) ∧ ((bBY C n) = (bBY C n)))))) ∧ (((-1) ≤ (relR (aAX C n) (aAY C n) (aBX C n) (aBY C n) (bAX C n) (bAY C n) (bBX C n) (bBY C n)) ∧ (relR (aAX C n) (aAY C n) (aBX C n) (aBY C n) (bAX C n) (bAY C n) (bBX C n) (bBY C n)) ≤ 3) → ((relR (aAX C n) (aAY C n) (aBX C n) (aBY C n) (bAX C n) (bAY C n) (bBX C n) (bBY C n)) = (relR (aAX C n) (aAY C n) (aBX C n) (aBY C n) (bAX C n) (bAY C n) (bBX C n) (bBY C n)))))) ∧ (((relR (aAX C n) (aAY C n) (aBX C n) (aBY C n) (bAX C n) (bAY C n) (bBX C n) (bBY C n)) = (relR (aAX C n) (aAY C n) (aBX C n) (aBY C n) (bAX C n) (bAY C n) (bBX C n) (bBY C n))) → ((((relR (aAX C n) (aAY C n) (aBX C n) (aBY C n) (bAX C n) (bAY C n) (bBX C n) (bBY C n)) < 0) → (((((aAX C n) = (aAX C n)) ∧ (((aAY C n) = (aAY C n)) ∧ (((aBX C n) = (aBX C n)) ∧ ((aBY C n) = (aBY C n))))) ∧ (((bAX C n) = (bAX C n)) ∧ (((bAY C n) = (bAY C n)) ∧ (((bBX C n) = (bBX C n)) ∧ ((bBY C n) = (bBY C n)))))) ∧ (((-1) ≤ (relR (aAX C n) (aAY C n) (aBX C n) (aBY C n) (bAX C n) (bAY C n) (bBX C n) (bBY C n)) ∧ (relR (aAX C n) (aAY C n) (aBX C n) (aBY C n) (bAX C n) (bAY C n) (bBX C n) (bBY C n)) ≤ 3) → ((relR (aAX C n) (aAY C n) (aBX C n) (aBY C n) (bAX C n) (bAY C n) (bBX C n) (bBY C n)) = (relR (aAX C n) (aAY C n) (aBX C n) (aBY C n) (bAX C n) (bAY C n) (bBX C n) (bBY C n)))))) ∧ ((0 ≤ (relR (aAX C n) (aAY C n) (aBX C n) (aBY C n) (bAX C n) (bAY C n) (bBX C n) (bBY C n))) → (((((aAX C n) = (aAX C n)) ∧ (((aAY C n) = (aAY C n)) ∧ (((aBX C n) = (aBX C n)) ∧ ((aBY C n) = (aBY C n))))) ∧ (((bAX C n) = (bAX C n)) ∧ ((bAY C n) = (bAY C n)))) ∧ ((((onSeg (aAX C n) (aAY C n) (aBX C n) (aBY C n) (bAX C n) (bAY C n)) = true) → (((relR (aAX C n) (aAY C n) (aBX C n) (aBY C n) (bAX C n) (bAY C n) (bBX C n) (bBY C n)) ≠ 1) → ((relR (aAX C n) (aAY C n) (aBX C n) (aBY C n) (bAX C n) (bAY C n) (bBX C n) (bBY C n)) = 3))) ∧ (((onSeg (aAX C n) (aAY C n) (aBX C n) (aBY C n) (bAX C n) (bAY C n)) = false) → (((((aAX C n) = (aAX C n)) ∧ (((aAY C n) = (aAY C n)) ∧ (((aBX C n) = (aBX C n)) ∧ ((aBY C n) = (aBY C n))))) ∧ (((bBX C n) = (bBX C n)) ∧ ((bBY C n) = (bBY C n)))) ∧ ((((onSeg (aAX C n) (aAY C n) (aBX C n) (aBY C n) (bBX C n) (bBY C n)) = true) → (((relR (aAX C n) (aAY C n) (aBX C n) (aBY C n) (bAX C n) (bAY C n) (bBX C n) (bBY C n)) ≠ 1) → ((relR (aAX C n) (aAY C n) (aBX C n) (aBY C n) (bAX C n) (bAY C n) (bBX C n) (bBY C n)) = 3))) ∧ (((onSeg (aAX C n) (aAY C n) (aBX C n) (aBY C n) (bBX C n) (bBY C n)) = false) → (((((bAX C n) = (bAX C n)) ∧ (((bAY C n) = (bAY C n)) ∧ (((bBX C n) = (bBX C n)) ∧ ((bBY C n) = (bBY C n))))) ∧ (((aAX C n) = (aAX C n)) ∧ ((aAY C n) = (aAY C n)))) ∧ ((((onSeg (bAX C n) (bAY C n) (bBX C n) (bBY C n) (aAX C n) (aAY C n)) = true) → (((relR (aAX C n) (aAY C n) (aBX C n) (aBY C n) (bAX C n) (bAY C n) (bBX C n) (bBY C n)) ≠ 1) → ((relR (aAX C n) (aAY C n) (aBX C n) (aBY C n) (bAX C n) (bAY C n) (bBX C n) (bBY C n)) = 3))) ∧ (((onSeg (bAX C n) (bAY C n) (bBX C n) (bBY C n) (aAX C n) (aAY C n)) = false) → (((((bAX C n) = (bAX C n)) ∧ (((bAY C n) = (bAY C n)) ∧ (((bBX C n) = (bBX C n)) ∧ ((bBY C n) = (bBY C n))))) ∧ (((aBX C n) = (aBX C n)) ∧ ((aBY C n) = (aBY C n)))) ∧ ((((relR (aAX C n) (aAY C n) (aBX C n) (aBY C n) (bAX C n) (bAY C n) (bBX C n) (bBY C n)) = 1) → ((onSeg (bAX C n) (bAY C n) (bBX C n) (bBY C n) (aBX C n) (aBY C n)) = true)) ∧ (((relR (aAX C n) (aAY C n) (aBX C n) (aBY C n) (bAX C n) (bAY C n) (bBX C n) (bBY C n)) ≠ 1) → ((((onSeg (bAX C n) (bAY C n) (bBX C n) (bBY C n) (aBX C n) (aBY C n)) = true) ↔ ((relR (aAX C n) (aAY C n) (aBX C n) (aBY C n) (bAX C n) (bAY C n) (bBX C n) (bBY C n)) = 3)))))))))))))))))))))))))))) (by kernel_rfl) ?_
  intro h1 h2
  intro c3
  refine ⟨rfl, ⟨Int.le_refl _, fun _ => fun _ => rfl⟩, ?_⟩
  intro c4
  refine ⟨⟨⟨rfl, ⟨rfl, ⟨rfl, rfl⟩⟩⟩, ⟨rfl, ⟨rfl, ⟨rfl, rfl⟩⟩⟩⟩, ?_⟩
  intro c5
  refine ⟨⟨⟨rfl, ⟨rfl, ⟨rfl, rfl⟩⟩⟩, ⟨rfl, ⟨rfl, ⟨rfl, rfl⟩⟩⟩⟩, ?_⟩
  intro c6
  refine ⟨?_, ?_⟩
  · intro c7
    refine ⟨⟨⟨rfl, ⟨rfl, ⟨rfl, rfl⟩⟩⟩, ⟨rfl, ⟨rfl, ⟨rfl, rfl⟩⟩⟩⟩, ?_⟩
    intro c8
    -- 1: (relR (aAX C n) (aAY C n) (aBX C n) (aBY C n) (bAX C n) (bAY C n) (bBX C n) (bBY C n)) = (relR (aAX 
    first | rfl | omega | (have hl := ends_on (sAX := aAX C n) (sAY := aAY C n) (sBX := aBX C n) (sBY := aBY C n) (tAX := bAX C n) (tAY := bAY C n) (tBX := bBX C n) (tBY := bBY C n) (by omega); first | omega | (simp_all; done) | (simp_all; omega)) | (simp_all; done) | fail
  · intro c9
    refine ⟨?_, ?_⟩
    · intro c10
      refine ⟨⟨⟨rfl, ⟨rfl, ⟨rfl, rfl⟩⟩⟩, ⟨rfl, ⟨rfl, ⟨rfl, rfl⟩⟩⟩⟩, ?_⟩
      intro c11
      -- 2: (relR (aAX C n) (aAY C n) (aBX C n) (aBY C n) (bAX C n) (bAY C n) (bBX C n) (bBY C n)) = (relR (aAX 
      first | rfl | omega | (have hl := ends_on (sAX := aAX C n) (sAY := aAY C n) (sBX := aBX C n) (sBY := aBY C n) (tAX := bAX C n) (tAY := bAY C n) (tBX := bBX C n) (tBY := bBY C n) (by omega); first | omega | (simp_all; done) | (simp_all; omega)) | (simp_all; done) | fail
    · intro c12
      refine ⟨⟨⟨rfl, ⟨rfl, ⟨rfl, rfl⟩⟩⟩, ⟨rfl, rfl⟩⟩, ?_, ?_⟩
      · intro c13
        intro c14
        -- 3: (relR (aAX C n) (aAY C n) (aBX C n) (aBY C n) (bAX C n) (bAY C n) (bBX C n) (bBY C n)) = 3
        first | rfl | omega | (have hl := ends_on (sAX := aAX C n) (sAY := aAY C n) (sBX := aBX C n) (sBY := aBY C n) (tAX := bAX C n) (tAY := bAY C n) (tBX := bBX C n) (tBY := bBY C n) (by omega); first | omega | (simp_all; done) | (simp_all; omega)) | (simp_all; done) | fail
      · intro c15
        refine ⟨⟨⟨rfl, ⟨rfl, ⟨rfl, rfl⟩⟩⟩, ⟨rfl, rfl⟩⟩, ?_, ?_⟩
        · intro c16
          intro c17
          -- 4: (relR (aAX C n) (aAY C n) (aBX C n) (aBY C n) (bAX C n) (bAY C n) (bBX C n) (bBY C n)) = 3
          first | rfl | omega | (have hl := ends_on (sAX := aAX C n) (sAY := aAY C n) (sBX := aBX C n) (sBY := aBY C n) (tAX := bAX C n) (tAY := bAY C n) (tBX := bBX C n) (tBY := bBY C n) (by omega); first | omega | (simp_all; done) | (simp_all; omega)) | (simp_all; done) | fail
        · intro c18
          refine ⟨⟨⟨rfl, ⟨rfl, ⟨rfl, rfl⟩⟩⟩, ⟨rfl, rfl⟩⟩, ?_, ?_⟩
          · intro c19
            intro c20
            -- 5: (relR (aAX C n) (aAY C n) (aBX C n) (aBY C n) (bAX C n) (bAY C n) (bBX C n) (bBY C n)) = 3
            first | rfl | omega | (have hl := ends_on (sAX := aAX C n) (sAY := aAY C n) (sBX := aBX C n) (sBY := aBY C n) (tAX := bAX C n) (tAY := bAY C n) (tBX := bBX C n) (tBY := bBY C n) (by omega); first | omega | (simp_all; done) | (simp_all; omega)) | (simp_all; done) | fail
          · intro c21
            refine ⟨⟨⟨rfl, ⟨rfl, ⟨rfl, rfl⟩⟩⟩, ⟨rfl, rfl⟩⟩, ?_, ?_⟩
            · intro c22
              -- 6: (onSeg (bAX C n) (bAY C n) (bBX C n) (bBY C n) (aBX C n) (aBY C n)) = true
              first | rfl | omega | (have hl := ends_on (sAX := aAX C n) (sAY := aAY C n) (sBX := aBX C n) (sBY := aBY C n) (tAX := bAX C n) (tAY := bAY C n) (tBX := bBX C n) (tBY := bBY C n) (by omega); first | omega | (simp_all; done) | (simp_all; omega)) | (simp_all; done) | fail
            · intro c23
              -- 7: (((onSeg (bAX C n) (bAY C n) (bBX C n) (bBY C n) (aBX C n) (aBY C n)) = true) ↔ ((relR (aAX C n) (aA
              first | rfl | omega | (have hl := ends_on (sAX := aAX C n) (sAY := aAY C n) (sBX := aBX C n) (sBY := aBY C n) (tAX := bAX C n) (tAY := bAY C n) (tBX := bBX C n) (tBY := bBY C n) (by omega); first | omega | (simp_all; done) | (simp_all; omega)) | (simp_all; done) | fail
def c_l_FnRelationEnds (C : Int → Int) (n : Int) : Cn Try.prog := ⟨_, _, _, _, _, l_FnRelationEnds C n⟩
end Go.Proofs.Ytoielngedkbmbaa
