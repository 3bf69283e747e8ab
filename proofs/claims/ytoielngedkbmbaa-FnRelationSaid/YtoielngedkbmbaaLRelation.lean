/- FnRelation: the walk. -/
import Derived.Test.YtoielngedkbmbaaK20
set_option linter.unusedSimpArgs false
set_option linter.unusedVariables false
set_option maxRecDepth 100000
namespace Go.Proofs.Ytoielngedkbmbaa
open Go.Sym
theorem l_FnRelation (C : Int → Int) (n : Int) : RunsTo Try.prog 5 [(.sl 0 1 (.lit 0) (.v fun _ => n) 9223372036854775807)] [some ⟨5, 1, false, (.sym (.v fun _ => n) fun e => [(.int .u8 (.v fun _ => (C (e.den))) 0 255)])⟩] (.bool (.lit true)) [none] := by
  refine RunsTo.go env Try.func5 rfl Try.call5 rfl rfl (fun _ _ => (.ite .ret (.callF (c_s_DrawRelation C n) (.callF (c_i_Relation (aAX C n) (aAY C n) (aBX C n) (aBY C n) (bAX C n) (bAY C n) (bBX C n) (bBY C n)) (.callF (c_s_Relation (aAX C n) (aAY C n) (aBX C n) (aBY C n) (bAX C n) (bAY C n) (bBX C n) (bBY C n)) (.ite (.callF (c_s_Relation (aAX C n) (aAY C n) (aBX C n) (aBY C n) (bAX C n) (bAY C n) (bBX C n) (bBY C n)) .ret) (.ite (.callF (c_s_Relation (aAX C n) (aAY C n) (aBX C n) (aBY C n) (bAX C n) (bAY C n) (bBX C n) (bBY C n)) .ret) (.callF (c_i_Relation (bAX C n) (bAY C n) (bBX C n) (bBY C n) (aAX C n) (aAY C n) (aBX C n) (aBY C n)) (.ite (.callF (c_i_Relation (aBX C n) (aBY C n) (aAX C n) (aAY C n) (bAX C n) (bAY C n) (bBX C n) (bBY C n)) (.ite (.callF (c_i_Relation (aAX C n) (aAY C n) (aBX C n) (aBY C n) (aAX C n) (aAY C n) (aBX C n) (aBY C n)) .ret) .ret)) .ret))))))))) (G := (0 ≤ n ∧ n ≤ 9223372036854775807) → (∀ e2 : E, ((0 ≤ e2.den ∧ e2.den < n) → (0 ≤ ((C (e2.den))) ∧ ((C (e2.den))) ≤ 255))) → ((n ≤ 1048576) → ((n = n) ∧ (((n ≤ n) ∧ (∀ e1 : E, ((0 ≤ e1.den ∧ e1.den < n) → (((C (e1.den))) = ((C (e1.den))))))) ∧ (((((-1001) ≤ (aAX C n) ∧ (aAX C n) ≤ 1001) ∧ (((-1001) ≤ (aAY C n) ∧ (aAY C n) ≤ 1001) ∧ (((-1001) ≤ (aBX C n) ∧ (aBX C n) ≤ 1001) ∧ ((-1001) ≤ (aBY C n) ∧ (aBY C n) ≤ 1001)))) ∧ (((-3003) ≤ (bAX C n) ∧ (bAX C n) ≤ 3003) ∧ (((-3003) ≤ (bAY C n) ∧ (bAY C n) ≤ 3003) ∧ (((-3003) ≤ (bBX C n) ∧ (bBX C n) ≤ 3003) ∧ ((-3003) ≤ (bBY C n) ∧ (bBY C n) ≤ 3003))))) → (((((aAX C n) = (aAX C n)) ∧ (((aAY C n) = (aAY C n)) ∧ (((aBX C n) = (aBX C n)) ∧ ((aBY C n) = (aBY C n))))) ∧ (((bAX C n) = (bAX C n)) ∧ (((bAY C n) = (bAY C n)) ∧ (((bBX C n) = (bBX C n)) ∧ ((bBY C n) = (bBY C n)))))) ∧ (((-1) ≤ (relR (aAX C n) (aAY C n) (aBX C n) (aBY C n) (bAX C n) (bAY C n) (bBX C n) (bBY C n)) ∧ (relR (aAX C n) (aAY C n) (aBX C n) (aBY C n) (bAX C n) (bAY C n) (bBX C n) (bBY C n)) ≤ 3) → (((((aAX C n) = (aAX C n)) ∧ (((aAY C n) = (aAY C n)) ∧ (((aBX C n) = (aBX C n)) ∧ ((aBY C n) = (aBY C n))))) ∧ (((bAX C n) = (bAX C n)) ∧ (((bAY C n) = (bAY C n)) ∧ (((bBX C n) = (bBX C n)) ∧ ((bBY C n) = (bBY C n)))))) ∧ (((-1) ≤ (relR (aAX C n) (aAY C n) (aBX C n) (aBY C n) (bAX C n) (bAY C n) (bBX C n) (bBY C n)) ∧ (relR (aAX C n) (aAY C n) (aBX C n) (aBY C n) (bAX C n) (bAY C n) (bBX C n) (bBY C n)) ≤ 3) → ((((relR (aAX C n) (aAY C n) (aBX C n) (aBY C n) (bAX C n) (bAY C n) (bBX C n) (bBY C n)) ≠ (relR (aAX C n) (aAY C n) (aBX C n) (aBY C n) (bAX C n) (bAY C n) (bBX C n) (bBY C n))) → (((((aAX C n) = (aAX C n)) ∧ (((aAY C n) = (aAY C n)) ∧ (((aBX C n) = (aBX C n)) ∧ ((aBY C n) = (aBY C n))))) ∧ (((bAX C n) = (bAX C n)) ∧ (((bAY C n) = (bAY C n)) ∧ (((bBX C n) = (bBX C n)) ∧ ((bBY C n) = (bBY C n)))))) ∧ (((-1) ≤ (relR (aAX C n) (aAY C n) (aBX C n) (aBY C n) (bAX C n) (bAY C n) (bBX C n) (bBY C n)) ∧ (relR (aAX C n) (aAY C n) (aBX C n) (aBY C n) (bAX C n) (bAY C n) (bBX C n) (bBY C n)) ≤ 3) → ((relR (aAX C n) (aAY C n) (aBX C n) (aBY C n) (bAX C n) (bAY C n) (bBX C n) (bBY C n)) = (relR (aAX C n) (aAY C n) (aBX C n) (aBY C n) (bAX C n) (bAY C n) (bBX C n) (bBY C n)))))) ∧ (((relR (aAX C n) (aAY C n) (aBX C n) (aBY C n) (bAX C n) (bAY C n) (bBX C n) (bBY C n)) = (relR (aAX C n) (aAY C n) (aBX C n) (aBY C n) (bAX C n) (bAY C n) (bBX C n) (bBY C n))) → ((((relR (aAX C n) (aAY C n) (aBX C n) (aBY C n) (bAX C n) (bAY C n) (bBX C n) (bBY C n)) < 0) → (((((aAX C n) = (aAX C n)) ∧ (((aAY C n) = (aAY C n)) ∧ (((aBX C n) = (aBX C n)) ∧ ((aBY C n) = (aBY C n))))) ∧ (((bAX C n) = (bAX C n)) ∧ (((bAY C n) = (bAY C n)) ∧ (((bBX C n) = (bBX C n)) ∧ ((bBY C n) = (bBY C n)))))) ∧ (((-1) ≤ (relR (aAX C n) (aAY C n) (aBX C n) (aBY C n) (bAX C n) (bAY C n) (bBX C n) (bBY C n)) ∧ (relR (aAX C n) (aAY C n) (aBX C n) (aBY C n) (bAX C n) (bAY C n) (bBX C n) (bBY C n)) ≤ 3) → ((relR (aAX C n) (aAY C n) (aBX C n) (aBY C n) (bAX C n) (bAY C n) (bBX C n) (bBY C n)) = (relR (aAX C n) (aAY C n) (aBX C n) (aBY C n) (bAX C n) (bAY C n) (bBX C n) (bBY C n)))))) ∧ ((0 ≤ (relR (aAX C n) (aAY C n) (aBX C n) (aBY C n) (bAX C n) (bAY C n) (bBX C n) (bBY C n))) → (((((bAX C n) = (bAX C n)) ∧ (((bAY C n) = (bAY C n)) ∧ (((bBX C n) = (bBX C n)) ∧ ((bBY C n) = (bBY C n))))) ∧ (((aAX C n) = (aAX C n)) ∧ (((aAY C n) = (aAY C n)) ∧ (((aBX C n) = (aBX C n)) ∧ ((aBY C n) = (aBY C n)))))) ∧ (((-1) ≤ (relR (bAX C n) (bAY C n) (bBX C n) (bBY C n) (aAX C n) (aAY C n) (aBX C n) (aBY C n)) ∧ (relR (bAX C n) (bAY C n) (bBX C n) (bBY C n) (aAX C n) (aAY C n) (aBX C n) (aBY C n)) ≤ 3) → ((((relR (bAX C n) (bAY C n) (bBX C n) (bBY C n) (aAX C n) (aAY C n) (aBX C n) (aBY C n)) = (relR (aAX C n) (aAY C n) (aBX C n) (aBY C n) (bAX C n) (bAY C n) (bBX C n) (bBY C n))) → (((((aBX C n) = (aBX C n)) ∧ (((aBY C n) = (aBY C n)) ∧ (((aAX C n) = (aAX C n)) ∧ ((aAY C n) = (aAY C n))))) ∧ (((bAX C n) = (bAX C n)) ∧ (((bAY C n) = (bAY C n)) ∧ (((bBX C n) = (bBX C n)) ∧ ((bBY C n) = (bBY C n)))))) ∧ (((-1) ≤ (relR (aBX C n) (aBY C n) (aAX C n) (aAY C n) (bAX C n) (bAY C n) (bBX C n) (bBY C n)) ∧ (relR (aBX C n) (aBY C n) (aAX C n) (aAY C n) (bAX C n) (bAY C n) (bBX C n) (bBY C n)) ≤ 3) → ((((relR (aBX C n) (aBY C n) (aAX C n) (aAY C n) (bAX C n) (bAY C n) (bBX C n) (bBY C n)) = (relR (aAX C n) (aAY C n) (aBX C n) (aBY C n) (bAX C n) (bAY C n) (bBX C n) (bBY C n))) → (((((aAX C n) = (aAX C n)) ∧ (((aAY C n) = (aAY C n)) ∧ (((aBX C n) = (aBX C n)) ∧ ((aBY C n) = (aBY C n))))) ∧ (((aAX C n) = (aAX C n)) ∧ (((aAY C n) = (aAY C n)) ∧ (((aBX C n) = (aBX C n)) ∧ ((aBY C n) = (aBY C n)))))) ∧ (((-1) ≤ (relR (aAX C n) (aAY C n) (aBX C n) (aBY C n) (aAX C n) (aAY C n) (aBX C n) (aBY C n)) ∧ (relR (aAX C n) (aAY C n) (aBX C n) (aBY C n) (aAX C n) (aAY C n) (aBX C n) (aBY C n)) ≤ 3) → ((relR (aAX C n) (aAY C n) (aBX C n) (aBY C n) (aAX C n) (aAY C n) (aBX C n) (aBY C n)) = 3)))) ∧ (((relR (aBX C n) (aBY C n) (aAX C n) (aAY C n) (bAX C n) (bAY C n) (bBX C n) (bBY C n)) ≠ (relR (aAX C n) (aAY C n) (aBX C n) (aBY C n) (bAX C n) (bAY C n) (bBX C n) (bBY C n))) → (False)))))) ∧ (((relR (bAX C n) (bAY C n) (bBX C n) (bBY C n) (aAX C n) (aAY C n) (aBX C n) (aBY C n)) ≠ (relR (aAX C n) (aAY C n) (aBX C n) (aBY C n) (bAX C n) (bAY C n) (bBX C n) (bBY C n))) → (False)))))))))))))))))) (by kernel_rfl) ?_
  intro h1 h2
  intro c3
  refine ⟨rfl, ⟨Int.le_refl _, fun _ => fun _ => rfl⟩, ?_⟩
  intro c4
  refine ⟨⟨⟨rfl, ⟨rfl, ⟨rfl, rfl⟩⟩⟩, ⟨rfl, ⟨rfl, ⟨rfl, rfl⟩⟩⟩⟩, ?_⟩
  intro c5
  refine ⟨⟨⟨rfl, ⟨rfl, ⟨rfl, rfl⟩⟩⟩, ⟨rfl, ⟨rfl, ⟨rfl, rfl⟩⟩⟩⟩, ?_⟩
  intro c6
  refine ⟨?_, ?_⟩
  · intro c7
    refine ⟨⟨⟨rfl, ⟨rfl, ⟨rfl, rfl⟩⟩⟩, ⟨rfl, ⟨rfl, ⟨rfl, rfl⟩⟩⟩⟩, ?_⟩
    intro c8
    -- 1: (relR (aAX C n) (aAY C n) (aBX C n) (aBY C n) (bAX C n) (bAY C n) (bBX C n) (bBY C n)) = (relR (aAX 
    first | rfl | omega | (have hl := rel_law (sAX := aAX C n) (sAY := aAY C n) (sBX := aBX C n) (sBY := aBY C n) (tAX := bAX C n) (tAY := bAY C n) (tBX := bBX C n) (tBY := bBY C n) (by omega); first | omega | (simp_all; done)) | (simp_all; done) | fail
  · intro c9
    refine ⟨?_, ?_⟩
    · intro c10
      refine ⟨⟨⟨rfl, ⟨rfl, ⟨rfl, rfl⟩⟩⟩, ⟨rfl, ⟨rfl, ⟨rfl, rfl⟩⟩⟩⟩, ?_⟩
      intro c11
      -- 2: (relR (aAX C n) (aAY C n) (aBX C n) (aBY C n) (bAX C n) (bAY C n) (bBX C n) (bBY C n)) = (relR (aAX 
      first | rfl | omega | (have hl := rel_law (sAX := aAX C n) (sAY := aAY C n) (sBX := aBX C n) (sBY := aBY C n) (tAX := bAX C n) (tAY := bAY C n) (tBX := bBX C n) (tBY := bBY C n) (by omega); first | omega | (simp_all; done)) | (simp_all; done) | fail
    · intro c12
      refine ⟨⟨⟨rfl, ⟨rfl, ⟨rfl, rfl⟩⟩⟩, ⟨rfl, ⟨rfl, ⟨rfl, rfl⟩⟩⟩⟩, ?_⟩
      intro c13
      refine ⟨?_, ?_⟩
      · intro c14
        refine ⟨⟨⟨rfl, ⟨rfl, ⟨rfl, rfl⟩⟩⟩, ⟨rfl, ⟨rfl, ⟨rfl, rfl⟩⟩⟩⟩, ?_⟩
        intro c15
        refine ⟨?_, ?_⟩
        · intro c16
          refine ⟨⟨⟨rfl, ⟨rfl, ⟨rfl, rfl⟩⟩⟩, ⟨rfl, ⟨rfl, ⟨rfl, rfl⟩⟩⟩⟩, ?_⟩
          intro c17
          -- 3: (relR (aAX C n) (aAY C n) (aBX C n) (aBY C n) (aAX C n) (aAY C n) (aBX C n) (aBY C n)) = 3
          first | rfl | omega | (have hl := rel_law (sAX := aAX C n) (sAY := aAY C n) (sBX := aBX C n) (sBY := aBY C n) (tAX := bAX C n) (tAY := bAY C n) (tBX := bBX C n) (tBY := bBY C n) (by omega); first | omega | (simp_all; done)) | (simp_all; done) | fail
        · intro c18
          -- 4: False
          first | rfl | omega | (have hl := rel_law (sAX := aAX C n) (sAY := aAY C n) (sBX := aBX C n) (sBY := aBY C n) (tAX := bAX C n) (tAY := bAY C n) (tBX := bBX C n) (tBY := bBY C n) (by omega); first | omega | (simp_all; done)) | (simp_all; done) | fail
      · intro c19
        -- 5: False
        first | rfl | omega | (have hl := rel_law (sAX := aAX C n) (sAY := aAY C n) (sBX := aBX C n) (sBY := aBY C n) (tAX := bAX C n) (tAY := bAY C n) (tBX := bBX C n) (tBY := bBY C n) (by omega); first | omega | (simp_all; done)) | (simp_all; done) | fail
def c_l_FnRelation (C : Int → Int) (n : Int) : Cn Try.prog := ⟨_, _, _, _, _, l_FnRelation C n⟩
end Go.Proofs.Ytoielngedkbmbaa
