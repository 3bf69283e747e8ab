/- CheckSpanning. -/
import Derived.Test.YtcfkpdjbjfnnmaaK61
import Derived.Test.YtcfkpdjbjfnnmaaK62a
set_option linter.unusedSimpArgs false
set_option linter.unusedVariables false
set_option maxRecDepth 100000
namespace Go.Proofs.Ytcfkpdjbjfnnmaa
open Go.Sym
theorem IndexFunc_c1 (A : Int → Int) (B : Int → Int) (m : Int) : RunsTo Try.prog 113 [(.sl 0 2 (.lit 0) (.v fun _ => m) 1048576), (.fn 58 [])] [some ⟨58, 2, true, (.sym (.v fun _ => m) fun e => [(.int .i64 (.v fun _ => (A (e.den))) (-9223372036854775808) 9223372036854775807), (.int .i64 (.v fun _ => (B (e.den))) (-9223372036854775808) 9223372036854775807)])⟩] (.int .i64 (.v fun _ => fidx (fun i => decide ((A (i)) = (B (i)))) m) (-1) 1048576) [some ⟨58, 2, true, (.sym (.v fun _ => m) fun e => [(.int .i64 (.v fun _ => (A (e.den))) (-9223372036854775808) 9223372036854775807), (.int .i64 (.v fun _ => (B (e.den))) (-9223372036854775808) 9223372036854775807)])⟩] := by
  refine RunsTo.go env Try.func113 rfl Try.call113 rfl rfl (fun _ _ => (.loop [] [0] (Int) (fun x1 => ⟨spl 19 0 [(0, (.sl 0 2 (.lit 0) (.v fun _ => m) 1048576)), (1, (.fn 58 [])), (7, (.int .i64 (.v fun _ => m) 0 1048576)), (8, (.int .i64 (.v fun _ => x1) 0 1048576))], [some ⟨58, 2, true, (.sym (.v fun _ => m) fun e => [(.int .i64 (.v fun _ => (A (e.den))) (-9223372036854775808) 9223372036854775807), (.int .i64 (.v fun _ => (B (e.den))) (-9223372036854775808) 9223372036854775807)])⟩], 1⟩) (fun x1 => (0 ≤ x1 ∧ x1 ≤ m) ∧ ∀ i, 0 ≤ i → i < x1 → decide ((A (i)) = (B (i))) = false) (fun x1 => (m - x1).toNat) fun x1 => (.ite (.need (.need (.call (c_CheckSpanning1 ((A (x1))) ((B (x1)))) (.ite (.out .ret) (.next [0]))))) (.out .ret)))) (G := (0 ≤ m ∧ m ≤ 1048576) → (∀ e8 : E, ((0 ≤ e8.den ∧ e8.den < m) → (((-9223372036854775808) ≤ ((A (e8.den))) ∧ ((A (e8.den))) ≤ 9223372036854775807) ∧ ((-9223372036854775808) ≤ ((B (e8.den))) ∧ ((B (e8.den))) ≤ 9223372036854775807)))) → ((∃ y2 : Int, (((0 ≤ y2 ∧ y2 ≤ m) ∧ ∀ i, 0 ≤ i → i < y2 → decide ((A (i)) = (B (i))) = false) ∧ (((m = m) ∧ ((m = m) ∧ ((0 : Int) = y2))) ∧ ((m ≤ m) ∧ (∀ e3 : E, ((0 ≤ e3.den ∧ e3.den < m) → ((((A (e3.den))) = ((A (e3.den)))) ∧ (((B (e3.den))) = ((B (e3.den))))))))))) ∧ (∀ x1 : Int, (((0 ≤ x1 ∧ x1 ≤ m) ∧ ∀ i, 0 ≤ i → i < x1 → decide ((A (i)) = (B (i))) = false) → (((x1 < m) → ((((0 ≤ x1) ∧ (x1 < m))) ∧ ((x1 < m) ∧ (((((A (x1))) = ((A (x1)))) ∧ (((B (x1))) = ((B (x1))))) ∧ ((((decide (((A (x1))) = ((B (x1))))) = true) → ((x1 = (fidx (fun i => decide ((A (i)) = (B (i)))) m)) ∧ ((m ≤ m) ∧ (∀ e4 : E, ((0 ≤ e4.den ∧ e4.den < m) → ((((A (e4.den))) = ((A (e4.den)))) ∧ (((B (e4.den))) = ((B (e4.den)))))))))) ∧ (((decide (((A (x1))) = ((B (x1))))) = false) → (∃ y5 : Int, (((0 ≤ y5 ∧ y5 ≤ m) ∧ ∀ i, 0 ≤ i → i < y5 → decide ((A (i)) = (B (i))) = false) ∧ ((((m = m) ∧ ((m = m) ∧ (((x1 + 1) = y5) ∧ ((1 ≤ (x1 + 1) ∧ (x1 + 1) ≤ 1048577) → (0 ≤ y5 ∧ y5 ≤ 1048576))))) ∧ ((m ≤ m) ∧ (∀ e6 : E, ((0 ≤ e6.den ∧ e6.den < m) → ((((A (e6.den))) = ((A (e6.den)))) ∧ (((B (e6.den))) = ((B (e6.den))))))))) ∧ ((m - y5).toNat < (m - x1).toNat)))))))))) ∧ ((m ≤ x1) → ((((-1) : Int) = (fidx (fun i => decide ((A (i)) = (B (i)))) m)) ∧ ((m ≤ m) ∧ (∀ e7 : E, ((0 ≤ e7.den ∧ e7.den < m) → ((((A (e7.den))) = ((A (e7.den)))) ∧ (((B (e7.den))) = ((B (e7.den))))))))))))))) (by kernel_rfl) ?_
  intro h1 h2
  have hb := fidx_bd (fun i => decide ((A (i)) = (B (i)))) h1.1
  refine ⟨?_, ?_⟩
  · refine ⟨0, ?_⟩
    try dsimp only
    refine ⟨?_, ?_, Int.le_refl _, fun _ => fun _ => ⟨rfl, rfl⟩⟩
    · exact ⟨by omega, fun i a b => by omega⟩
    · refine ⟨rfl, rfl, ?_⟩
      rfl
  · intro j
    intro I1
    refine ⟨?_, ?_⟩
    · intro c9
      refine ⟨?_, ?_, ⟨rfl, rfl⟩, ?_, ?_⟩
      · omega
      · omega
      · intro c10
        refine ⟨?_, Int.le_refl _, fun _ => fun _ => ⟨rfl, rfl⟩⟩
        exact (fidx_found I1.1.1 (by omega) (by assumption) I1.2).symm
      · intro c11
        refine ⟨j + 1, ?_⟩
        try dsimp only
        refine ⟨?_, ?_, ?_⟩
        · refine ⟨by omega, fun i a b => ?_⟩; by_cases e : i = j; (subst e; first | assumption | exact decide_eq_false (by assumption)); exact I1.2 i a (by omega)
        · refine ⟨?_, Int.le_refl _, fun _ => fun _ => ⟨rfl, rfl⟩⟩
          refine ⟨rfl, rfl, ?_, ?_⟩
          · rfl
          · intro c12
            omega
        · omega
    · intro c13
      refine ⟨?_, Int.le_refl _, fun _ => fun _ => ⟨rfl, rfl⟩⟩
      exact (fidx_none fun i a b => I1.2 i a (by omega)).symm
def c_IndexFunc_c1 (A : Int → Int) (B : Int → Int) (m : Int) : Cn Try.prog := ⟨_, _, _, _, _, IndexFunc_c1 A B m⟩
theorem ContainsFunc_c1 (A : Int → Int) (B : Int → Int) (m : Int) : RunsTo Try.prog 57 [(.sl 0 2 (.lit 0) (.v fun _ => m) 1048576), (.fn 58 [])] [some ⟨58, 2, true, (.sym (.v fun _ => m) fun e => [(.int .i64 (.v fun _ => (A (e.den))) (-9223372036854775808) 9223372036854775807), (.int .i64 (.v fun _ => (B (e.den))) (-9223372036854775808) 9223372036854775807)])⟩] (.bool (.v fun _ => decide (0 ≤ fidx (fun i => decide ((A (i)) = (B (i)))) m))) [some ⟨58, 2, true, (.sym (.v fun _ => m) fun e => [(.int .i64 (.v fun _ => (A (e.den))) (-9223372036854775808) 9223372036854775807), (.int .i64 (.v fun _ => (B (e.den))) (-9223372036854775808) 9223372036854775807)])⟩] := by
  refine RunsTo.go env Try.func57 rfl Try.call57 rfl rfl (fun _ _ => (.call (c_IndexFunc_c1 A B m) .ret)) (G := (0 ≤ m ∧ m ≤ 1048576) → (∀ e3 : E, ((0 ≤ e3.den ∧ e3.den < m) → (((-9223372036854775808) ≤ ((A (e3.den))) ∧ ((A (e3.den))) ≤ 9223372036854775807) ∧ ((-9223372036854775808) ≤ ((B (e3.den))) ∧ ((B (e3.den))) ≤ 9223372036854775807)))) → ((m = m) ∧ (((m ≤ m) ∧ (∀ e1 : E, ((0 ≤ e1.den ∧ e1.den < m) → ((((A (e1.den))) = ((A (e1.den)))) ∧ (((B (e1.den))) = ((B (e1.den)))))))) ∧ (((0 ≤ (fidx (fun i => decide (((A (i))) = ((B (i))))) m)) ↔ ((decide (0 ≤ fidx (fun i => decide ((A (i)) = (B (i)))) m)) = true)) ∧ ((m ≤ m) ∧ (∀ e2 : E, ((0 ≤ e2.den ∧ e2.den < m) → ((((A (e2.den))) = ((A (e2.den)))) ∧ (((B (e2.den))) = ((B (e2.den)))))))))))) (by kernel_rfl) ?_
  intro h1 h2
  refine ⟨rfl, ⟨Int.le_refl _, fun _ => fun _ => ⟨rfl, rfl⟩⟩, ?_, Int.le_refl _, fun _ => fun _ => ⟨rfl, rfl⟩⟩
  -- 1: (0 ≤ (fidx (fun i => decide (((A (i))) = ((B (i))))) m)) ↔ ((decide (0 ≤ fidx (fun i => decide ((A (
  simp
def c_ContainsFunc_c1 (A : Int → Int) (B : Int → Int) (m : Int) : Cn Try.prog := ⟨_, _, _, _, _, ContainsFunc_c1 A B m⟩
theorem IndexFunc_c2 (X : Int → Int) (Y : Int → Int) (n : Int) (A : Int → Int) (B : Int → Int) (m : Int) (V : Int → Int) (U : Int → Int) (k : Int) (hp : (∀ i, 0 ≤ i → i < k → (0 ≤ (V (i)) ∧ (V (i)) < n) ∧ 0 ≤ (U (i)) ∧ (U (i)) < n) ∧ edR A B n m ∧ n ≤ 20 ∧ m ≤ 400) : RunsTo Try.prog 113 [(.sl 0 2 (.lit 0) (.v fun _ => k) 1048576), (.fn 60 [(.ptr 1 1 (.lit 0) 0), (.ptr 2 1 (.lit 0) 0)])] [some ⟨58, 2, true, (.sym (.v fun _ => k) fun e => [(.int .i64 (.v fun _ => (V (e.den))) (-9223372036854775808) 9223372036854775807), (.int .i64 (.v fun _ => (U (e.den))) (-9223372036854775808) 9223372036854775807)])⟩, some ⟨27, 1, true, (.lit [[(.sl 3 2 (.lit 0) (.v fun _ => n) 1048576)]])⟩, some ⟨29, 1, true, (.lit [[(.sl 4 2 (.lit 0) (.v fun _ => m) 1048576)]])⟩, some ⟨50, 2, true, (.sym (.v fun _ => n) fun e => [(.int .i64 (.v fun _ => (X (e.den))) (-1000) 1000), (.int .i64 (.v fun _ => (Y (e.den))) (-1000) 1000)])⟩, some ⟨58, 2, true, (.sym (.v fun _ => m) fun e => [(.int .i64 (.v fun _ => (A (e.den))) (-9223372036854775808) 9223372036854775807), (.int .i64 (.v fun _ => (B (e.den))) (-9223372036854775808) 9223372036854775807)])⟩] (.int .i64 (.v fun _ => fidx (fun i => !(lnk X Y A B m (mhD X Y (V (i)) (U (i))) (V (i)) (U (i)))) k) (-1) 1048576) [some ⟨58, 2, true, (.sym (.v fun _ => k) fun e => [(.int .i64 (.v fun _ => (V (e.den))) (-9223372036854775808) 9223372036854775807), (.int .i64 (.v fun _ => (U (e.den))) (-9223372036854775808) 9223372036854775807)])⟩, some ⟨27, 1, true, (.lit [[(.sl 3 2 (.lit 0) (.v fun _ => n) 1048576)]])⟩, some ⟨29, 1, true, (.lit [[(.sl 4 2 (.lit 0) (.v fun _ => m) 1048576)]])⟩, some ⟨50, 2, true, (.sym (.v fun _ => n) fun e => [(.int .i64 (.v fun _ => (X (e.den))) (-1000) 1000), (.int .i64 (.v fun _ => (Y (e.den))) (-1000) 1000)])⟩, some ⟨58, 2, true, (.sym (.v fun _ => m) fun e => [(.int .i64 (.v fun _ => (A (e.den))) (-9223372036854775808) 9223372036854775807), (.int .i64 (.v fun _ => (B (e.den))) (-9223372036854775808) 9223372036854775807)])⟩] := by
  refine RunsTo.go env Try.func113 rfl Try.call113 rfl rfl (fun _ _ => (.loop [] [0, 1, 2, 3, 4] (Int) (fun x1 => ⟨spl 19 0 [(0, (.sl 0 2 (.lit 0) (.v fun _ => k) 1048576)), (1, (.fn 60 [(.ptr 1 1 (.lit 0) 0), (.ptr 2 1 (.lit 0) 0)])), (7, (.int .i64 (.v fun _ => k) 0 1048576)), (8, (.int .i64 (.v fun _ => x1) 0 1048576))], [some ⟨58, 2, true, (.sym (.v fun _ => k) fun e => [(.int .i64 (.v fun _ => (V (e.den))) (-9223372036854775808) 9223372036854775807), (.int .i64 (.v fun _ => (U (e.den))) (-9223372036854775808) 9223372036854775807)])⟩, some ⟨27, 1, true, (.lit [[(.sl 3 2 (.lit 0) (.v fun _ => n) 1048576)]])⟩, some ⟨29, 1, true, (.lit [[(.sl 4 2 (.lit 0) (.v fun _ => m) 1048576)]])⟩, some ⟨50, 2, true, (.sym (.v fun _ => n) fun e => [(.int .i64 (.v fun _ => (X (e.den))) (-1000) 1000), (.int .i64 (.v fun _ => (Y (e.den))) (-1000) 1000)])⟩, some ⟨58, 2, true, (.sym (.v fun _ => m) fun e => [(.int .i64 (.v fun _ => (A (e.den))) (-9223372036854775808) 9223372036854775807), (.int .i64 (.v fun _ => (B (e.den))) (-9223372036854775808) 9223372036854775807)])⟩], 5⟩) (fun x1 => (0 ≤ x1 ∧ x1 ≤ k) ∧ ∀ i, 0 ≤ i → i < x1 → (!(lnk X Y A B m (mhD X Y (V (i)) (U (i))) (V (i)) (U (i)))) = false) (fun x1 => (k - x1).toNat) fun x1 => (.ite (.need (.need (.callH (c_CheckSpanning2 X Y n A B m ((V (x1))) ((U (x1)))) (.ite (.out .ret) (.next [0, 1, 2, 3, 4]))))) (.out .ret)))) (G := (0 ≤ k ∧ k ≤ 1048576) → ((∀ e20 : E, ((0 ≤ e20.den ∧ e20.den < k) → (((-9223372036854775808) ≤ ((V (e20.den))) ∧ ((V (e20.den))) ≤ 9223372036854775807) ∧ ((-9223372036854775808) ≤ ((U (e20.den))) ∧ ((U (e20.den))) ≤ 9223372036854775807)))) ∧ ((0 ≤ n ∧ n ≤ 1048576) ∧ ((0 ≤ m ∧ m ≤ 1048576) ∧ ((∀ e19 : E, ((0 ≤ e19.den ∧ e19.den < n) → (((-1000) ≤ ((X (e19.den))) ∧ ((X (e19.den))) ≤ 1000) ∧ ((-1000) ≤ ((Y (e19.den))) ∧ ((Y (e19.den))) ≤ 1000)))) ∧ (∀ e18 : E, ((0 ≤ e18.den ∧ e18.den < m) → (((-9223372036854775808) ≤ ((A (e18.den))) ∧ ((A (e18.den))) ≤ 9223372036854775807) ∧ ((-9223372036854775808) ≤ ((B (e18.den))) ∧ ((B (e18.den))) ≤ 9223372036854775807)))))))) → ((∃ y2 : Int, (((0 ≤ y2 ∧ y2 ≤ k) ∧ ∀ i, 0 ≤ i → i < y2 → (!(lnk X Y A B m (mhD X Y (V (i)) (U (i))) (V (i)) (U (i)))) = false) ∧ (((k = k) ∧ ((k = k) ∧ ((0 : Int) = y2))) ∧ (((k ≤ k) ∧ (∀ e5 : E, ((0 ≤ e5.den ∧ e5.den < k) → ((((V (e5.den))) = ((V (e5.den)))) ∧ (((U (e5.den))) = ((U (e5.den)))))))) ∧ ((n = n) ∧ ((m = m) ∧ (((n ≤ n) ∧ (∀ e4 : E, ((0 ≤ e4.den ∧ e4.den < n) → ((((X (e4.den))) = ((X (e4.den)))) ∧ (((Y (e4.den))) = ((Y (e4.den)))))))) ∧ ((m ≤ m) ∧ (∀ e3 : E, ((0 ≤ e3.den ∧ e3.den < m) → ((((A (e3.den))) = ((A (e3.den)))) ∧ (((B (e3.den))) = ((B (e3.den))))))))))))))) ∧ (∀ x1 : Int, (((0 ≤ x1 ∧ x1 ≤ k) ∧ ∀ i, 0 ≤ i → i < x1 → (!(lnk X Y A B m (mhD X Y (V (i)) (U (i))) (V (i)) (U (i)))) = false) → (((x1 < k) → ((((0 ≤ x1) ∧ (x1 < k))) ∧ ((x1 < k) ∧ (((0 ≤ ((V (x1))) ∧ ((V (x1))) < n) ∧ (0 ≤ ((U (x1))) ∧ ((U (x1))) < n) ∧ edR A B n m ∧ n ≤ 20 ∧ m ≤ 400) ∧ (((((V (x1))) = ((V (x1)))) ∧ (((U (x1))) = ((U (x1))))) ∧ (((n = n) ∧ ((m = m) ∧ (((n ≤ n) ∧ (∀ e7 : E, ((0 ≤ e7.den ∧ e7.den < n) → ((((X (e7.den))) = ((X (e7.den)))) ∧ (((Y (e7.den))) = ((Y (e7.den)))))))) ∧ ((m ≤ m) ∧ (∀ e6 : E, ((0 ≤ e6.den ∧ e6.den < m) → ((((A (e6.den))) = ((A (e6.den)))) ∧ (((B (e6.den))) = ((B (e6.den))))))))))) ∧ ((((!(lnk X Y A B m (mhD X Y ((V (x1))) ((U (x1)))) ((V (x1))) ((U (x1))))) = true) → ((x1 = (fidx (fun i => !(lnk X Y A B m (mhD X Y (V (i)) (U (i))) (V (i)) (U (i)))) k)) ∧ (((k ≤ k) ∧ (∀ e10 : E, ((0 ≤ e10.den ∧ e10.den < k) → ((((V (e10.den))) = ((V (e10.den)))) ∧ (((U (e10.den))) = ((U (e10.den)))))))) ∧ ((n = n) ∧ ((m = m) ∧ (((n ≤ n) ∧ (∀ e9 : E, ((0 ≤ e9.den ∧ e9.den < n) → ((((X (e9.den))) = ((X (e9.den)))) ∧ (((Y (e9.den))) = ((Y (e9.den)))))))) ∧ ((m ≤ m) ∧ (∀ e8 : E, ((0 ≤ e8.den ∧ e8.den < m) → ((((A (e8.den))) = ((A (e8.den)))) ∧ (((B (e8.den))) = ((B (e8.den)))))))))))))) ∧ (((!(lnk X Y A B m (mhD X Y ((V (x1))) ((U (x1)))) ((V (x1))) ((U (x1))))) = false) → (∃ y11 : Int, (((0 ≤ y11 ∧ y11 ≤ k) ∧ ∀ i, 0 ≤ i → i < y11 → (!(lnk X Y A B m (mhD X Y (V (i)) (U (i))) (V (i)) (U (i)))) = false) ∧ ((((k = k) ∧ ((k = k) ∧ (((x1 + 1) = y11) ∧ ((1 ≤ (x1 + 1) ∧ (x1 + 1) ≤ 1048577) → (0 ≤ y11 ∧ y11 ≤ 1048576))))) ∧ (((k ≤ k) ∧ (∀ e14 : E, ((0 ≤ e14.den ∧ e14.den < k) → ((((V (e14.den))) = ((V (e14.den)))) ∧ (((U (e14.den))) = ((U (e14.den)))))))) ∧ ((n = n) ∧ ((m = m) ∧ (((n ≤ n) ∧ (∀ e13 : E, ((0 ≤ e13.den ∧ e13.den < n) → ((((X (e13.den))) = ((X (e13.den)))) ∧ (((Y (e13.den))) = ((Y (e13.den)))))))) ∧ ((m ≤ m) ∧ (∀ e12 : E, ((0 ≤ e12.den ∧ e12.den < m) → ((((A (e12.den))) = ((A (e12.den)))) ∧ (((B (e12.den))) = ((B (e12.den))))))))))))) ∧ ((k - y11).toNat < (k - x1).toNat)))))))))))) ∧ ((k ≤ x1) → ((((-1) : Int) = (fidx (fun i => !(lnk X Y A B m (mhD X Y (V (i)) (U (i))) (V (i)) (U (i)))) k)) ∧ (((k ≤ k) ∧ (∀ e17 : E, ((0 ≤ e17.den ∧ e17.den < k) → ((((V (e17.den))) = ((V (e17.den)))) ∧ (((U (e17.den))) = ((U (e17.den)))))))) ∧ ((n = n) ∧ ((m = m) ∧ (((n ≤ n) ∧ (∀ e16 : E, ((0 ≤ e16.den ∧ e16.den < n) → ((((X (e16.den))) = ((X (e16.den)))) ∧ (((Y (e16.den))) = ((Y (e16.den)))))))) ∧ ((m ≤ m) ∧ (∀ e15 : E, ((0 ≤ e15.den ∧ e15.den < m) → ((((A (e15.den))) = ((A (e15.den)))) ∧ (((B (e15.den))) = ((B (e15.den))))))))))))))))))) (by kernel_rfl) ?_
  intro h1 h2
  have hb := fidx_bd (fun i => !(lnk X Y A B m (mhD X Y (V (i)) (U (i))) (V (i)) (U (i)))) h1.1
  refine ⟨?_, ?_⟩
  · refine ⟨0, ?_⟩
    try dsimp only
    refine ⟨?_, ?_, ⟨Int.le_refl _, fun _ => fun _ => ⟨rfl, rfl⟩⟩, rfl, rfl, ⟨Int.le_refl _, fun _ => fun _ => ⟨rfl, rfl⟩⟩, Int.le_refl _, fun _ => fun _ => ⟨rfl, rfl⟩⟩
    · exact ⟨by omega, fun i a b => by omega⟩
    · refine ⟨rfl, rfl, ?_⟩
      rfl
  · intro j
    intro I1
    refine ⟨?_, ?_⟩
    · intro c21
      refine ⟨?_, ?_, ?_, ⟨rfl, rfl⟩, ⟨rfl, ⟨rfl, ⟨⟨Int.le_refl _, fun _ => fun _ => ⟨rfl, rfl⟩⟩, ⟨Int.le_refl _, fun _ => fun _ => ⟨rfl, rfl⟩⟩⟩⟩⟩, ?_, ?_⟩
      · omega
      · omega
      · have hv := hp.1 j (by omega) (by omega); exact ⟨hv.1, hv.2, hp.2⟩
      · intro c22
        refine ⟨?_, ⟨Int.le_refl _, fun _ => fun _ => ⟨rfl, rfl⟩⟩, rfl, rfl, ⟨Int.le_refl _, fun _ => fun _ => ⟨rfl, rfl⟩⟩, Int.le_refl _, fun _ => fun _ => ⟨rfl, rfl⟩⟩
        exact (fidx_found I1.1.1 (by omega) (by assumption) I1.2).symm
      · intro c23
        refine ⟨j + 1, ?_⟩
        try dsimp only
        refine ⟨?_, ?_, ?_⟩
        · refine ⟨by omega, fun i a b => ?_⟩; by_cases e : i = j; (subst e; first | assumption | exact decide_eq_false (by assumption)); exact I1.2 i a (by omega)
        · refine ⟨?_, ⟨Int.le_refl _, fun _ => fun _ => ⟨rfl, rfl⟩⟩, rfl, rfl, ⟨Int.le_refl _, fun _ => fun _ => ⟨rfl, rfl⟩⟩, Int.le_refl _, fun _ => fun _ => ⟨rfl, rfl⟩⟩
          refine ⟨rfl, rfl, ?_, ?_⟩
          · rfl
          · intro c24
            omega
        · omega
    · intro c25
      refine ⟨?_, ⟨Int.le_refl _, fun _ => fun _ => ⟨rfl, rfl⟩⟩, rfl, rfl, ⟨Int.le_refl _, fun _ => fun _ => ⟨rfl, rfl⟩⟩, Int.le_refl _, fun _ => fun _ => ⟨rfl, rfl⟩⟩
      exact (fidx_none fun i a b => I1.2 i a (by omega)).symm
def c_IndexFunc_c2 (X : Int → Int) (Y : Int → Int) (n : Int) (A : Int → Int) (B : Int → Int) (m : Int) (V : Int → Int) (U : Int → Int) (k : Int) : CnH Try.prog := ⟨_, _, _, _, _, _, IndexFunc_c2 X Y n A B m V U k⟩
theorem ContainsFunc_c2 (X : Int → Int) (Y : Int → Int) (n : Int) (A : Int → Int) (B : Int → Int) (m : Int) (V : Int → Int) (U : Int → Int) (k : Int) (hp : (∀ i, 0 ≤ i → i < k → (0 ≤ (V (i)) ∧ (V (i)) < n) ∧ 0 ≤ (U (i)) ∧ (U (i)) < n) ∧ edR A B n m ∧ n ≤ 20 ∧ m ≤ 400) : RunsTo Try.prog 57 [(.sl 0 2 (.lit 0) (.v fun _ => k) 1048576), (.fn 60 [(.ptr 1 1 (.lit 0) 0), (.ptr 2 1 (.lit 0) 0)])] [some ⟨58, 2, true, (.sym (.v fun _ => k) fun e => [(.int .i64 (.v fun _ => (V (e.den))) (-9223372036854775808) 9223372036854775807), (.int .i64 (.v fun _ => (U (e.den))) (-9223372036854775808) 9223372036854775807)])⟩, some ⟨27, 1, true, (.lit [[(.sl 3 2 (.lit 0) (.v fun _ => n) 1048576)]])⟩, some ⟨29, 1, true, (.lit [[(.sl 4 2 (.lit 0) (.v fun _ => m) 1048576)]])⟩, some ⟨50, 2, true, (.sym (.v fun _ => n) fun e => [(.int .i64 (.v fun _ => (X (e.den))) (-1000) 1000), (.int .i64 (.v fun _ => (Y (e.den))) (-1000) 1000)])⟩, some ⟨58, 2, true, (.sym (.v fun _ => m) fun e => [(.int .i64 (.v fun _ => (A (e.den))) (-9223372036854775808) 9223372036854775807), (.int .i64 (.v fun _ => (B (e.den))) (-9223372036854775808) 9223372036854775807)])⟩] (.bool (.v fun _ => decide (0 ≤ fidx (fun i => !(lnk X Y A B m (mhD X Y (V (i)) (U (i))) (V (i)) (U (i)))) k))) [some ⟨58, 2, true, (.sym (.v fun _ => k) fun e => [(.int .i64 (.v fun _ => (V (e.den))) (-9223372036854775808) 9223372036854775807), (.int .i64 (.v fun _ => (U (e.den))) (-9223372036854775808) 9223372036854775807)])⟩, some ⟨27, 1, true, (.lit [[(.sl 3 2 (.lit 0) (.v fun _ => n) 1048576)]])⟩, some ⟨29, 1, true, (.lit [[(.sl 4 2 (.lit 0) (.v fun _ => m) 1048576)]])⟩, some ⟨50, 2, true, (.sym (.v fun _ => n) fun e => [(.int .i64 (.v fun _ => (X (e.den))) (-1000) 1000), (.int .i64 (.v fun _ => (Y (e.den))) (-1000) 1000)])⟩, some ⟨58, 2, true, (.sym (.v fun _ => m) fun e => [(.int .i64 (.v fun _ => (A (e.den))) (-9223372036854775808) 9223372036854775807), (.int .i64 (.v fun _ => (B (e.den))) (-9223372036854775808) 9223372036854775807)])⟩] := by
  refine RunsTo.go env Try.func57 rfl Try.call57 rfl rfl (fun _ _ => (.callH (c_IndexFunc_c2 X Y n A B m V U k) .ret)) (G := (0 ≤ k ∧ k ≤ 1048576) → ((∀ e9 : E, ((0 ≤ e9.den ∧ e9.den < k) → (((-9223372036854775808) ≤ ((V (e9.den))) ∧ ((V (e9.den))) ≤ 9223372036854775807) ∧ ((-9223372036854775808) ≤ ((U (e9.den))) ∧ ((U (e9.den))) ≤ 9223372036854775807)))) ∧ ((0 ≤ n ∧ n ≤ 1048576) ∧ ((0 ≤ m ∧ m ≤ 1048576) ∧ ((∀ e8 : E, ((0 ≤ e8.den ∧ e8.den < n) → (((-1000) ≤ ((X (e8.den))) ∧ ((X (e8.den))) ≤ 1000) ∧ ((-1000) ≤ ((Y (e8.den))) ∧ ((Y (e8.den))) ≤ 1000)))) ∧ (∀ e7 : E, ((0 ≤ e7.den ∧ e7.den < m) → (((-9223372036854775808) ≤ ((A (e7.den))) ∧ ((A (e7.den))) ≤ 9223372036854775807) ∧ ((-9223372036854775808) ≤ ((B (e7.den))) ∧ ((B (e7.den))) ≤ 9223372036854775807)))))))) → (((∀ i, 0 ≤ i → i < k → (0 ≤ ((V (i))) ∧ ((V (i))) < n) ∧ 0 ≤ ((U (i))) ∧ ((U (i))) < n) ∧ edR A B n m ∧ n ≤ 20 ∧ m ≤ 400) ∧ ((k = k) ∧ ((((k ≤ k) ∧ (∀ e3 : E, ((0 ≤ e3.den ∧ e3.den < k) → ((((V (e3.den))) = ((V (e3.den)))) ∧ (((U (e3.den))) = ((U (e3.den)))))))) ∧ ((n = n) ∧ ((m = m) ∧ (((n ≤ n) ∧ (∀ e2 : E, ((0 ≤ e2.den ∧ e2.den < n) → ((((X (e2.den))) = ((X (e2.den)))) ∧ (((Y (e2.den))) = ((Y (e2.den)))))))) ∧ ((m ≤ m) ∧ (∀ e1 : E, ((0 ≤ e1.den ∧ e1.den < m) → ((((A (e1.den))) = ((A (e1.den)))) ∧ (((B (e1.den))) = ((B (e1.den)))))))))))) ∧ (((0 ≤ (fidx (fun i => !(lnk X Y A B m (mhD X Y ((V (i))) ((U (i)))) ((V (i))) ((U (i))))) k)) ↔ ((decide (0 ≤ fidx (fun i => !(lnk X Y A B m (mhD X Y (V (i)) (U (i))) (V (i)) (U (i)))) k)) = true)) ∧ (((k ≤ k) ∧ (∀ e6 : E, ((0 ≤ e6.den ∧ e6.den < k) → ((((V (e6.den))) = ((V (e6.den)))) ∧ (((U (e6.den))) = ((U (e6.den)))))))) ∧ ((n = n) ∧ ((m = m) ∧ (((n ≤ n) ∧ (∀ e5 : E, ((0 ≤ e5.den ∧ e5.den < n) → ((((X (e5.den))) = ((X (e5.den)))) ∧ (((Y (e5.den))) = ((Y (e5.den)))))))) ∧ ((m ≤ m) ∧ (∀ e4 : E, ((0 ≤ e4.den ∧ e4.den < m) → ((((A (e4.den))) = ((A (e4.den)))) ∧ (((B (e4.den))) = ((B (e4.den))))))))))))))))) (by kernel_rfl) ?_
  intro h1 h2
  refine ⟨?_, rfl, ⟨⟨Int.le_refl _, fun _ => fun _ => ⟨rfl, rfl⟩⟩, ⟨rfl, ⟨rfl, ⟨⟨Int.le_refl _, fun _ => fun _ => ⟨rfl, rfl⟩⟩, ⟨Int.le_refl _, fun _ => fun _ => ⟨rfl, rfl⟩⟩⟩⟩⟩⟩, ?_, ⟨Int.le_refl _, fun _ => fun _ => ⟨rfl, rfl⟩⟩, rfl, rfl, ⟨Int.le_refl _, fun _ => fun _ => ⟨rfl, rfl⟩⟩, Int.le_refl _, fun _ => fun _ => ⟨rfl, rfl⟩⟩
  · exact hp
  · simp
def c_ContainsFunc_c2 (X : Int → Int) (Y : Int → Int) (n : Int) (A : Int → Int) (B : Int → Int) (m : Int) (V : Int → Int) (U : Int → Int) (k : Int) : CnH Try.prog := ⟨_, _, _, _, _, _, ContainsFunc_c2 X Y n A B m V U k⟩
theorem i_CheckSpanning (X : Int → Int) (Y : Int → Int) (n : Int) (A : Int → Int) (B : Int → Int) (m : Int) : RunsTo Try.prog 18 [(.sl 0 2 (.lit 0) (.v fun _ => n) 1048576), (.sl 1 2 (.lit 0) (.v fun _ => m) 1048576)] [some ⟨50, 2, true, (.sym (.v fun _ => n) fun e => [(.int .i64 (.v fun _ => (X (e.den))) (-9223372036854775808) 9223372036854775807), (.int .i64 (.v fun _ => (Y (e.den))) (-9223372036854775808) 9223372036854775807)])⟩, some ⟨58, 2, true, (.sym (.v fun _ => m) fun e => [(.int .i64 (.v fun _ => (A (e.den))) (-9223372036854775808) 9223372036854775807), (.int .i64 (.v fun _ => (B (e.den))) (-9223372036854775808) 9223372036854775807)])⟩] (.bool (.v fun _ => spB X Y n A B m)) [some ⟨50, 2, true, (.sym (.v fun _ => n) fun e => [(.int .i64 (.v fun _ => (X (e.den))) (-9223372036854775808) 9223372036854775807), (.int .i64 (.v fun _ => (Y (e.den))) (-9223372036854775808) 9223372036854775807)])⟩, some ⟨58, 2, true, (.sym (.v fun _ => m) fun e => [(.int .i64 (.v fun _ => (A (e.den))) (-9223372036854775808) 9223372036854775807), (.int .i64 (.v fun _ => (B (e.den))) (-9223372036854775808) 9223372036854775807)])⟩] := by
  refine RunsTo.go env Try.func18 rfl Try.call18 rfl rfl (fun _ _ => (.call (c_i_edgesIn X Y n A B m) (.ite .ret (.ite .ret (.call (c_ContainsFunc_c1 A B m) (.ite .ret (.callF (c_i_pairs n) (.callH (c_ContainsFunc_c2 X Y n A B m (sA (prsL n n (n + 1))) (sB (prsL n n (n + 1))) (lenP (prsL n n (n + 1)))) .ret)))))))) (G := ((0 ≤ n ∧ n ≤ 1048576) ∧ (0 ≤ m ∧ m ≤ 1048576)) → ((∀ e16 : E, ((0 ≤ e16.den ∧ e16.den < n) → (((-9223372036854775808) ≤ ((X (e16.den))) ∧ ((X (e16.den))) ≤ 9223372036854775807) ∧ ((-9223372036854775808) ≤ ((Y (e16.den))) ∧ ((Y (e16.den))) ≤ 9223372036854775807)))) ∧ (∀ e15 : E, ((0 ≤ e15.den ∧ e15.den < m) → (((-9223372036854775808) ≤ ((A (e15.den))) ∧ ((A (e15.den))) ≤ 9223372036854775807) ∧ ((-9223372036854775808) ≤ ((B (e15.den))) ∧ ((B (e15.den))) ≤ 9223372036854775807))))) → (((n = n) ∧ (m = m)) ∧ ((((n ≤ n) ∧ (∀ e2 : E, ((0 ≤ e2.den ∧ e2.den < n) → ((((X (e2.den))) = ((X (e2.den)))) ∧ (((Y (e2.den))) = ((Y (e2.den)))))))) ∧ ((m ≤ m) ∧ (∀ e1 : E, ((0 ≤ e1.den ∧ e1.den < m) → ((((A (e1.den))) = ((A (e1.den)))) ∧ (((B (e1.den))) = ((B (e1.den))))))))) ∧ ((((edOK X Y n A B m) = false) → (((spB X Y n A B m) = false) ∧ (((n ≤ n) ∧ (∀ e4 : E, ((0 ≤ e4.den ∧ e4.den < n) → ((((X (e4.den))) = ((X (e4.den)))) ∧ (((Y (e4.den))) = ((Y (e4.den)))))))) ∧ ((m ≤ m) ∧ (∀ e3 : E, ((0 ≤ e3.den ∧ e3.den < m) → ((((A (e3.den))) = ((A (e3.den)))) ∧ (((B (e3.den))) = ((B (e3.den))))))))))) ∧ (((edOK X Y n A B m) = true) → (((m ≠ (if 0 > (n - 1) then 0 else (n - 1))) → (((spB X Y n A B m) = false) ∧ (((n ≤ n) ∧ (∀ e6 : E, ((0 ≤ e6.den ∧ e6.den < n) → ((((X (e6.den))) = ((X (e6.den)))) ∧ (((Y (e6.den))) = ((Y (e6.den)))))))) ∧ ((m ≤ m) ∧ (∀ e5 : E, ((0 ≤ e5.den ∧ e5.den < m) → ((((A (e5.den))) = ((A (e5.den)))) ∧ (((B (e5.den))) = ((B (e5.den))))))))))) ∧ ((m = (if 0 > (n - 1) then 0 else (n - 1))) → ((m = m) ∧ (((m ≤ m) ∧ (∀ e7 : E, ((0 ≤ e7.den ∧ e7.den < m) → ((((A (e7.den))) = ((A (e7.den)))) ∧ (((B (e7.den))) = ((B (e7.den)))))))) ∧ ((((decide (0 ≤ fidx (fun i => decide (((A (i))) = ((B (i))))) m)) = true) → (((spB X Y n A B m) = false) ∧ (((n ≤ n) ∧ (∀ e9 : E, ((0 ≤ e9.den ∧ e9.den < n) → ((((X (e9.den))) = ((X (e9.den)))) ∧ (((Y (e9.den))) = ((Y (e9.den)))))))) ∧ ((m ≤ m) ∧ (∀ e8 : E, ((0 ≤ e8.den ∧ e8.den < m) → ((((A (e8.den))) = ((A (e8.den)))) ∧ (((B (e8.den))) = ((B (e8.den))))))))))) ∧ (((decide (0 ≤ fidx (fun i => decide (((A (i))) = ((B (i))))) m)) = false) → (((n = n) ∧ ((0 ≤ n ∧ n ≤ 1048576) → (0 ≤ n ∧ n ≤ 20))) ∧ ((0 ≤ (lenP (prsL n n (n + 1))) ∧ (lenP (prsL n n (n + 1))) ≤ 1048576) → (((∀ i, 0 ≤ i → i < (lenP (prsL n n (n + 1))) → (0 ≤ (sA (prsL n n (n + 1)) (i)) ∧ (sA (prsL n n (n + 1)) (i)) < n) ∧ 0 ≤ (sB (prsL n n (n + 1)) (i)) ∧ (sB (prsL n n (n + 1)) (i)) < n) ∧ edR A B n m ∧ n ≤ 20 ∧ m ≤ 400) ∧ (((lenP (prsL n n (n + 1))) = (lenP (prsL n n (n + 1)))) ∧ (((((lenP (prsL n n (n + 1))) ≤ (lenP (prsL n n (n + 1)))) ∧ (∀ e12 : E, ((0 ≤ e12.den ∧ e12.den < (lenP (prsL n n (n + 1)))) → (((sA (prsL n n (n + 1)) (e12.den)) = (sA (prsL n n (n + 1)) ((e12.den)))) ∧ ((sB (prsL n n (n + 1)) (e12.den)) = (sB (prsL n n (n + 1)) ((e12.den)))))))) ∧ ((n = n) ∧ ((m = m) ∧ (((n ≤ n) ∧ (∀ e11 : E, ((0 ≤ e11.den ∧ e11.den < n) → (((((X (e11.den))) = ((X (e11.den)))) ∧ (((-9223372036854775808) ≤ ((X (e11.den))) ∧ ((X (e11.den))) ≤ 9223372036854775807) → ((-1000) ≤ ((X (e11.den))) ∧ ((X (e11.den))) ≤ 1000))) ∧ ((((Y (e11.den))) = ((Y (e11.den)))) ∧ (((-9223372036854775808) ≤ ((Y (e11.den))) ∧ ((Y (e11.den))) ≤ 9223372036854775807) → ((-1000) ≤ ((Y (e11.den))) ∧ ((Y (e11.den))) ≤ 1000))))))) ∧ ((m ≤ m) ∧ (∀ e10 : E, ((0 ≤ e10.den ∧ e10.den < m) → ((((A (e10.den))) = ((A (e10.den)))) ∧ (((B (e10.den))) = ((B (e10.den)))))))))))) ∧ ((((decide (0 ≤ fidx (fun i => !(lnk X Y A B m (mhD X Y (sA (prsL n n (n + 1)) (i)) (sB (prsL n n (n + 1)) (i))) (sA (prsL n n (n + 1)) (i)) (sB (prsL n n (n + 1)) (i)))) (lenP (prsL n n (n + 1))))) = false) ↔ ((spB X Y n A B m) = true)) ∧ (((n ≤ n) ∧ (∀ e14 : E, ((0 ≤ e14.den ∧ e14.den < n) → ((((X (e14.den))) = ((X (e14.den)))) ∧ (((Y (e14.den))) = ((Y (e14.den)))))))) ∧ ((m ≤ m) ∧ (∀ e13 : E, ((0 ≤ e13.den ∧ e13.den < m) → ((((A (e13.den))) = ((A (e13.den)))) ∧ (((B (e13.den))) = ((B (e13.den)))))))))))))))))))))))))) (by kernel_rfl) ?_
  intro h1 h2
  refine ⟨⟨rfl, rfl⟩, ⟨⟨Int.le_refl _, fun _ => fun _ => ⟨rfl, rfl⟩⟩, ⟨Int.le_refl _, fun _ => fun _ => ⟨rfl, rfl⟩⟩⟩, ?_, ?_⟩
  · intro c17
    refine ⟨?_, ⟨Int.le_refl _, fun _ => fun _ => ⟨rfl, rfl⟩⟩, Int.le_refl _, fun _ => fun _ => ⟨rfl, rfl⟩⟩
    rw [spB_ed (by assumption)]; done
  · intro c18
    refine ⟨?_, ?_⟩
    · intro c19
      refine ⟨?_, ⟨Int.le_refl _, fun _ => fun _ => ⟨rfl, rfl⟩⟩, Int.le_refl _, fun _ => fun _ => ⟨rfl, rfl⟩⟩
      exact spB_m (by assumption)
    · intro c20
      refine ⟨rfl, ⟨Int.le_refl _, fun _ => fun _ => ⟨rfl, rfl⟩⟩, ?_, ?_⟩
      · intro c21
        refine ⟨?_, ⟨Int.le_refl _, fun _ => fun _ => ⟨rfl, rfl⟩⟩, Int.le_refl _, fun _ => fun _ => ⟨rfl, rfl⟩⟩
        exact spB_e (by assumption) (of_decide_eq_true (by assumption))
      · intro c22
        refine ⟨?_, ?_⟩
        · refine ⟨rfl, ?_⟩
          intro c23
          have hl := listB_n (edOK_split (show edOK X Y n A B m = true by assumption)).1; omega
        · intro c24
          refine ⟨?_, rfl, ?_, ?_, ⟨Int.le_refl _, fun _ => fun _ => ⟨rfl, rfl⟩⟩, Int.le_refl _, fun _ => fun _ => ⟨rfl, rfl⟩⟩
          · have hk := ck_bd (show edOK X Y n A B m = true by assumption) h1.1.1 (by assumption); exact ⟨fun i a b => pr_in h1.1.1 a b, hk.2.1, hk.1⟩
          · refine ⟨⟨Int.le_refl _, fun _ => fun _ => ⟨rfl, rfl⟩⟩, rfl, rfl, ?_, Int.le_refl _, fun _ => fun _ => ⟨rfl, rfl⟩⟩
            refine ⟨Int.le_refl _, ?_⟩
            intro e11
            intro c25
            refine ⟨?_, rfl, ?_⟩
            · refine ⟨rfl, ?_⟩
              intro c26
              have hk := ck_bd (show edOK X Y n A B m = true by assumption) h1.1.1 (by assumption); (have hx := hk.2.2 e11.den (by omega) (by omega); omega)
            · intro c27
              have hk := ck_bd (show edOK X Y n A B m = true by assumption) h1.1.1 (by assumption); (have hx := hk.2.2 e11.den (by omega) (by omega); omega)
          · have hk := ck_bd (show edOK X Y n A B m = true by assumption) h1.1.1 (by assumption); (rw [spB_l (by assumption) (by assumption) (Int.not_le.1 (of_decide_eq_false (by assumption))), decide_eq_false_iff_not, Int.not_le]; exact spL_pairs h1.1.1)
def c_i_CheckSpanning (X : Int → Int) (Y : Int → Int) (n : Int) (A : Int → Int) (B : Int → Int) (m : Int) : Cn Try.prog := ⟨_, _, _, _, _, i_CheckSpanning X Y n A B m⟩
theorem s_linked (X : Int → Int) (Y : Int → Int) (n : Int) (A : Int → Int) (B : Int → Int) (m : Int) (a : Int) (b : Int) (most : Int) (hp : edR A B n m ∧ n ≤ 20 ∧ (0 ≤ a ∧ a < n)) : RunsTo Try.prog 52 [(.sl 0 2 (.lit 0) (.v fun _ => n) 1048576), (.sl 1 2 (.lit 0) (.v fun _ => m) 1048576), (.int .i64 (.v fun _ => a) (-9223372036854775808) 9223372036854775807), (.int .i64 (.v fun _ => b) (-9223372036854775808) 9223372036854775807), (.int .i64 (.v fun _ => most) (-9223372036854775808) 9223372036854775807)] [some ⟨50, 2, true, (.sym (.v fun _ => n) fun e => [(.int .i64 (.v fun _ => (X (e.den))) (-1000) 1000), (.int .i64 (.v fun _ => (Y (e.den))) (-1000) 1000)])⟩, some ⟨58, 2, true, (.sym (.v fun _ => m) fun e => [(.int .i64 (.v fun _ => (A (e.den))) (-9223372036854775808) 9223372036854775807), (.int .i64 (.v fun _ => (B (e.den))) (-9223372036854775808) 9223372036854775807)])⟩] (.bool (.v fun _ => lnk X Y A B m most a b)) [some ⟨50, 2, true, (.sym (.v fun _ => n) fun e => [(.int .i64 (.v fun _ => (X (e.den))) (-1000) 1000), (.int .i64 (.v fun _ => (Y (e.den))) (-1000) 1000)])⟩, some ⟨58, 2, true, (.sym (.v fun _ => m) fun e => [(.int .i64 (.v fun _ => (A (e.den))) (-9223372036854775808) 9223372036854775807), (.int .i64 (.v fun _ => (B (e.den))) (-9223372036854775808) 9223372036854775807)])⟩] := by
  refine RunsTo.go env Try.func52 rfl Try.call52 rfl rfl (fun _ _ => (.loop [] [0, 1, 2] (Int) (fun x1 => ⟨spl 88 0 [(0, (.sl 0 2 (.lit 0) (.v fun _ => n) 1048576)), (1, (.sl 1 2 (.lit 0) (.v fun _ => m) 1048576)), (3, (.int .i64 (.v fun _ => b) (-9223372036854775808) 9223372036854775807)), (4, (.int .i64 (.v fun _ => most) (-9223372036854775808) 9223372036854775807)), (10, (.bool (.lit false))), (11, (.sl 2 1 (.lit 0) (.v fun _ => len' (ouI X Y A B most a m x1)) 20)), (12, (.int .i64 (.v fun _ => x1) 0 20))], [some ⟨50, 2, true, (.sym (.v fun _ => n) fun e => [(.int .i64 (.v fun _ => (X (e.den))) (-1000) 1000), (.int .i64 (.v fun _ => (Y (e.den))) (-1000) 1000)])⟩, some ⟨58, 2, true, (.sym (.v fun _ => m) fun e => [(.int .i64 (.v fun _ => (A (e.den))) (-9223372036854775808) 9223372036854775807), (.int .i64 (.v fun _ => (B (e.den))) (-9223372036854775808) 9223372036854775807)])⟩, some ⟨3, 1, true, (.sym (.v fun _ => len' (ouI X Y A B most a m x1)) fun e => [(.int .i64 (.v fun _ => selL (ouI X Y A B most a m x1) (e.den)) (-9223372036854775808) 9223372036854775807)])⟩], 2⟩) (fun x1 => 0 ≤ x1 ∧ ∀ j : Nat, j < x1.toNat → (j : Int) < len' (ouL X Y A B most a m j)) (fun x1 => (20 - x1).toNat) fun x1 => (.ite (.loop [] [0, 1, 2] (Int) (fun x6 => ⟨spl 88 0 [(0, (.sl 0 2 (.lit 0) (.v fun _ => n) 1048576)), (1, (.sl 1 2 (.lit 0) (.v fun _ => m) 1048576)), (3, (.int .i64 (.v fun _ => b) (-9223372036854775808) 9223372036854775807)), (4, (.int .i64 (.v fun _ => most) (-9223372036854775808) 9223372036854775807)), (10, (.bool (.lit false))), (11, (.sl 2 1 (.lit 0) (.v fun _ => len' (inI X Y A B most a m x1 x6)) 20)), (12, (.int .i64 (.v fun _ => x1) 0 20)), (13, (.int .i64 (.v fun _ => x6) 0 1048576)), (17, (.int .i64 (.v fun _ => x1) 0 20)), (18, .any), (19, (.int .i64 (.v fun _ => len' (ouI X Y A B most a m x1)) 0 20)), (20, (.bool (.lt (.v fun _ => x1) (.v fun _ => len' (ouI X Y A B most a m x1)))))], [some ⟨50, 2, true, (.sym (.v fun _ => n) fun e => [(.int .i64 (.v fun _ => (X (e.den))) (-1000) 1000), (.int .i64 (.v fun _ => (Y (e.den))) (-1000) 1000)])⟩, some ⟨58, 2, true, (.sym (.v fun _ => m) fun e => [(.int .i64 (.v fun _ => (A (e.den))) (-9223372036854775808) 9223372036854775807), (.int .i64 (.v fun _ => (B (e.den))) (-9223372036854775808) 9223372036854775807)])⟩, some ⟨3, 1, true, (.sym (.v fun _ => len' (inI X Y A B most a m x1 x6)) fun e => [(.int .i64 (.v fun _ => selL (inI X Y A B most a m x1 x6) (e.den)) (-9223372036854775808) 9223372036854775807)])⟩], 2⟩) (fun x6 => (0 ≤ x1 ∧ ∀ j : Nat, j < x1.toNat → (j : Int) < len' (ouL X Y A B most a m j)) ∧ (x1 < len' (ouI X Y A B most a m x1)) ∧ 0 ≤ x6 ∧ x6 ≤ m) (fun x6 => (m - x6).toNat) fun x6 => (.ite (.need (.need (.need (.need (.need (.need (.call (c_s_manhattan ((X ((A (x6))))) ((Y ((A (x6))))) ((X ((B (x6))))) ((Y ((B (x6)))))) (.ite (.next [0, 1, 2]) (.need (.need (.ite (.callF (c_s_placeOf (selL (inI X Y A B most a m x1 x6)) (len' (inI X Y A B most a m x1 x6)) ((B (x6)))) (.ite (.need (.need (.need (.ite (.callF (c_s_placeOf ((fun ι => if ι = (len' (inI X Y A B most a m x1 x6)) then ((B (x6))) else (selL (inI X Y A B most a m x1 x6) ((ι))))) ((len' (inI X Y A B most a m x1 x6)) + 1) ((A (x6)))) (.ite (.need (.next [0, 1, 2])) (.next [0, 1, 2]))) (.next [0, 1, 2]))))) (.need (.need (.ite (.callF (c_s_placeOf (selL (inI X Y A B most a m x1 x6)) (len' (inI X Y A B most a m x1 x6)) ((A (x6)))) (.ite (.need (.next [0, 1, 2])) (.next [0, 1, 2]))) (.next [0, 1, 2])))))) (.need (.need (.ite (.callF (c_s_placeOf (selL (inI X Y A B most a m x1 x6)) (len' (inI X Y A B most a m x1 x6)) ((A (x6)))) (.ite (.need (.next [0, 1, 2])) (.next [0, 1, 2]))) (.next [0, 1, 2]))))))))))))))) (.out (.next [0, 1, 2])))) (.out (.callF (c_s_placeOf (selL (ouI X Y A B most a m x1)) (len' (ouI X Y A B most a m x1)) b) .ret))))) (G := ((0 ≤ n ∧ n ≤ 1048576) ∧ ((0 ≤ m ∧ m ≤ 1048576) ∧ (((-9223372036854775808) ≤ a ∧ a ≤ 9223372036854775807) ∧ (((-9223372036854775808) ≤ b ∧ b ≤ 9223372036854775807) ∧ ((-9223372036854775808) ≤ most ∧ most ≤ 9223372036854775807))))) → ((∀ e68 : E, ((0 ≤ e68.den ∧ e68.den < n) → (((-1000) ≤ ((X (e68.den))) ∧ ((X (e68.den))) ≤ 1000) ∧ ((-1000) ≤ ((Y (e68.den))) ∧ ((Y (e68.den))) ≤ 1000)))) ∧ (∀ e67 : E, ((0 ≤ e67.den ∧ e67.den < m) → (((-9223372036854775808) ≤ ((A (e67.den))) ∧ ((A (e67.den))) ≤ 9223372036854775807) ∧ ((-9223372036854775808) ≤ ((B (e67.den))) ∧ ((B (e67.den))) ≤ 9223372036854775807))))) → ((∃ y2 : Int, ((0 ≤ y2 ∧ ∀ j : Nat, j < y2.toNat → (j : Int) < len' (ouL X Y A B most a m j)) ∧ (((n = n) ∧ ((m = m) ∧ ((b = b) ∧ ((most = most) ∧ (((1 : Int) = (len' (ouI X Y A B most a m y2))) ∧ ((0 : Int) = y2)))))) ∧ (((n ≤ n) ∧ (∀ e5 : E, ((0 ≤ e5.den ∧ e5.den < n) → ((((X (e5.den))) = ((X (e5.den)))) ∧ (((Y (e5.den))) = ((Y (e5.den)))))))) ∧ (((m ≤ m) ∧ (∀ e4 : E, ((0 ≤ e4.den ∧ e4.den < m) → ((((A (e4.den))) = ((A (e4.den)))) ∧ (((B (e4.den))) = ((B (e4.den)))))))) ∧ (((len' (ouI X Y A B most a m y2)) = 1) ∧ (∀ e3 : E, ((e3.den = 0) → (a = (selL (ouI X Y A B most a m y2) (e3.den))))))))))) ∧ (∀ x1 : Int, ((0 ≤ x1 ∧ ∀ j : Nat, j < x1.toNat → (j : Int) < len' (ouL X Y A B most a m j)) → (((x1 < (len' (ouI X Y A B most a m x1))) → ((∃ y7 : Int, (((0 ≤ x1 ∧ ∀ j : Nat, j < x1.toNat → (j : Int) < len' (ouL X Y A B most a m j)) ∧ (x1 < len' (ouI X Y A B most a m x1)) ∧ 0 ≤ y7 ∧ y7 ≤ m) ∧ (((n = n) ∧ ((m = m) ∧ ((b = b) ∧ ((most = most) ∧ (((len' (ouI X Y A B most a m x1)) = (len' (inI X Y A B most a m x1 y7))) ∧ ((x1 = x1) ∧ (((0 : Int) = y7) ∧ ((x1 = x1) ∧ (((len' (ouI X Y A B most a m x1)) = (len' (ouI X Y A B most a m x1))) ∧ ((x1 < (len' (ouI X Y A B most a m x1))) ↔ (x1 < (len' (ouI X Y A B most a m x1))))))))))))) ∧ (((n ≤ n) ∧ (∀ e10 : E, ((0 ≤ e10.den ∧ e10.den < n) → ((((X (e10.den))) = ((X (e10.den)))) ∧ (((Y (e10.den))) = ((Y (e10.den)))))))) ∧ (((m ≤ m) ∧ (∀ e9 : E, ((0 ≤ e9.den ∧ e9.den < m) → ((((A (e9.den))) = ((A (e9.den)))) ∧ (((B (e9.den))) = ((B (e9.den)))))))) ∧ (((len' (inI X Y A B most a m x1 y7)) ≤ (len' (ouI X Y A B most a m x1))) ∧ (∀ e8 : E, ((0 ≤ e8.den ∧ e8.den < (len' (inI X Y A B most a m x1 y7))) → ((selL (ouI X Y A B most a m x1) (e8.den)) = (selL (inI X Y A B most a m x1 y7) (e8.den))))))))))) ∧ (∀ x6 : Int, (((0 ≤ x1 ∧ ∀ j : Nat, j < x1.toNat → (j : Int) < len' (ouL X Y A B most a m j)) ∧ (x1 < len' (ouI X Y A B most a m x1)) ∧ 0 ≤ x6 ∧ x6 ≤ m) → (((x6 < m) → ((((0 ≤ x6) ∧ (x6 < m))) ∧ ((x6 < m) ∧ ((((0 ≤ ((A (x6)))) ∧ (((A (x6))) < n))) ∧ ((((A (x6))) < n) ∧ ((((0 ≤ ((B (x6)))) ∧ (((B (x6))) < n))) ∧ ((((B (x6))) < n) ∧ ((((((X ((A (x6))))) = ((X ((A (x6)))))) ∧ (((Y ((A (x6))))) = ((Y ((A (x6))))))) ∧ ((((X ((B (x6))))) = ((X ((B (x6)))))) ∧ (((Y ((B (x6))))) = ((Y ((B (x6)))))))) ∧ (((most < (mht ((X ((A (x6))))) ((Y ((A (x6))))) ((X ((B (x6))))) ((Y ((B (x6))))))) → (∃ y11 : Int, (((0 ≤ x1 ∧ ∀ j : Nat, j < x1.toNat → (j : Int) < len' (ouL X Y A B most a m j)) ∧ (x1 < len' (ouI X Y A B most a m x1)) ∧ 0 ≤ y11 ∧ y11 ≤ m) ∧ ((((n = n) ∧ ((m = m) ∧ ((b = b) ∧ ((most = most) ∧ (((len' (inI X Y A B most a m x1 x6)) = (len' (inI X Y A B most a m x1 y11))) ∧ ((x1 = x1) ∧ ((((x6 + 1) = y11) ∧ ((1 ≤ (x6 + 1) ∧ (x6 + 1) ≤ 1048577) → (0 ≤ y11 ∧ y11 ≤ 1048576))) ∧ ((x1 = x1) ∧ (((len' (ouI X Y A B most a m x1)) = (len' (ouI X Y A B most a m x1))) ∧ ((x1 < (len' (ouI X Y A B most a m x1))) ↔ (x1 < (len' (ouI X Y A B most a m x1))))))))))))) ∧ (((n ≤ n) ∧ (∀ e14 : E, ((0 ≤ e14.den ∧ e14.den < n) → ((((X (e14.den))) = ((X (e14.den)))) ∧ (((Y (e14.den))) = ((Y (e14.den)))))))) ∧ (((m ≤ m) ∧ (∀ e13 : E, ((0 ≤ e13.den ∧ e13.den < m) → ((((A (e13.den))) = ((A (e13.den)))) ∧ (((B (e13.den))) = ((B (e13.den)))))))) ∧ (((len' (inI X Y A B most a m x1 y11)) ≤ (len' (inI X Y A B most a m x1 x6))) ∧ (∀ e12 : E, ((0 ≤ e12.den ∧ e12.den < (len' (inI X Y A B most a m x1 y11))) → ((selL (inI X Y A B most a m x1 x6) (e12.den)) = (selL (inI X Y A B most a m x1 y11) (e12.den))))))))) ∧ ((m - y11).toNat < (m - x6).toNat))))) ∧ (((mht ((X ((A (x6))))) ((Y ((A (x6))))) ((X ((B (x6))))) ((Y ((B (x6)))))) ≤ most) → ((((0 ≤ x1) ∧ (x1 < (len' (inI X Y A B most a m x1 x6))))) ∧ ((x1 < (len' (inI X Y A B most a m x1 x6))) ∧ (((((A (x6))) = (selL (inI X Y A B most a m x1 x6) (x1))) → ((((len' (inI X Y A B most a m x1 x6)) = (len' (inI X Y A B most a m x1 x6))) ∧ (((B (x6))) = ((B (x6))))) ∧ ((((len' (inI X Y A B most a m x1 x6)) ≤ (len' (inI X Y A B most a m x1 x6))) ∧ (∀ e15 : E, ((0 ≤ e15.den ∧ e15.den < (len' (inI X Y A B most a m x1 x6))) → ((selL (inI X Y A B most a m x1 x6) (e15.den)) = (selL (inI X Y A B most a m x1 x6) ((e15.den))))))) ∧ (((-1) ≤ (fidx (fun i => decide ((selL (inI X Y A B most a m x1 x6) (i)) = ((B (x6))))) (len' (inI X Y A B most a m x1 x6))) ∧ (fidx (fun i => decide ((selL (inI X Y A B most a m x1 x6) (i)) = ((B (x6))))) (len' (inI X Y A B most a m x1 x6))) ≤ 1048576) → ((((fidx (fun i => decide ((selL (inI X Y A B most a m x1 x6) (i)) = ((B (x6))))) (len' (inI X Y A B most a m x1 x6))) < 0) → (((len' (inI X Y A B most a m x1 x6)) = (len' (inI X Y A B most a m x1 x6))) ∧ ((((0 ≤ x1) ∧ (x1 < ((len' (inI X Y A B most a m x1 x6)) + 1)))) ∧ ((x1 < ((len' (inI X Y A B most a m x1 x6)) + 1)) ∧ (((((B (x6))) = (if decide (x1 < (len' (inI X Y A B most a m x1 x6))) = true then (selL (inI X Y A B most a m x1 x6) ((x1))) else ((B (x6))))) → (((((len' (inI X Y A B most a m x1 x6)) + 1) = ((len' (inI X Y A B most a m x1 x6)) + 1)) ∧ (((A (x6))) = ((A (x6))))) ∧ ((((0 : Int) ≤ (len' (inI X Y A B most a m x1 x6)) ∧ ((len' (inI X Y A B most a m x1 x6)) + 1) = (len' (inI X Y A B most a m x1 x6)) + 1) ∧ ((((len' (inI X Y A B most a m x1 x6)) ≤ (len' (inI X Y A B most a m x1 x6))) ∧ (∀ e17 : E, ((0 ≤ e17.den ∧ e17.den < (len' (inI X Y A B most a m x1 x6))) → ((selL (inI X Y A B most a m x1 x6) ((e17.den))) = ((if (e17.den) = (len' (inI X Y A B most a m x1 x6)) then ((B (x6))) else (selL (inI X Y A B most a m x1 x6) (((e17.den)))))))))) ∧ (∀ e16 : E, ((e16.den = (len' (inI X Y A B most a m x1 x6))) → (((B (x6))) = ((if (e16.den) = (len' (inI X Y A B most a m x1 x6)) then ((B (x6))) else (selL (inI X Y A B most a m x1 x6) (((e16.den))))))))))) ∧ (((-1) ≤ (fidx (fun i => decide ((if i = (len' (inI X Y A B most a m x1 x6)) then ((B (x6))) else (selL (inI X Y A B most a m x1 x6) ((i)))) = ((A (x6))))) ((len' (inI X Y A B most a m x1 x6)) + 1)) ∧ (fidx (fun i => decide ((if i = (len' (inI X Y A B most a m x1 x6)) then ((B (x6))) else (selL (inI X Y A B most a m x1 x6) ((i)))) = ((A (x6))))) ((len' (inI X Y A B most a m x1 x6)) + 1)) ≤ 1048576) → ((((fidx (fun i => decide ((if i = (len' (inI X Y A B most a m x1 x6)) then ((B (x6))) else (selL (inI X Y A B most a m x1 x6) ((i)))) = ((A (x6))))) ((len' (inI X Y A B most a m x1 x6)) + 1)) < 0) → ((((len' (inI X Y A B most a m x1 x6)) + 1) = ((len' (inI X Y A B most a m x1 x6)) + 1)) ∧ (∃ y18 : Int, (((0 ≤ x1 ∧ ∀ j : Nat, j < x1.toNat → (j : Int) < len' (ouL X Y A B most a m j)) ∧ (x1 < len' (ouI X Y A B most a m x1)) ∧ 0 ≤ y18 ∧ y18 ≤ m) ∧ ((((n = n) ∧ ((m = m) ∧ ((b = b) ∧ ((most = most) ∧ ((((((len' (inI X Y A B most a m x1 x6)) + 1) + 1) = (len' (inI X Y A B most a m x1 y18))) ∧ (((((len' (inI X Y A B most a m x1 x6)) + 1) + 1) ≤ 22) → ((len' (inI X Y A B most a m x1 y18)) ≤ 20))) ∧ ((x1 = x1) ∧ ((((x6 + 1) = y18) ∧ ((1 ≤ (x6 + 1) ∧ (x6 + 1) ≤ 1048577) → (0 ≤ y18 ∧ y18 ≤ 1048576))) ∧ ((x1 = x1) ∧ (((len' (ouI X Y A B most a m x1)) = (len' (ouI X Y A B most a m x1))) ∧ ((x1 < (len' (ouI X Y A B most a m x1))) ↔ (x1 < (len' (ouI X Y A B most a m x1))))))))))))) ∧ (((n ≤ n) ∧ (∀ e22 : E, ((0 ≤ e22.den ∧ e22.den < n) → ((((X (e22.den))) = ((X (e22.den)))) ∧ (((Y (e22.den))) = ((Y (e22.den)))))))) ∧ (((m ≤ m) ∧ (∀ e21 : E, ((0 ≤ e21.den ∧ e21.den < m) → ((((A (e21.den))) = ((A (e21.den)))) ∧ (((B (e21.den))) = ((B (e21.den)))))))) ∧ (((0 : Int) ≤ ((len' (inI X Y A B most a m x1 x6)) + 1) ∧ (len' (inI X Y A B most a m x1 y18)) = ((len' (inI X Y A B most a m x1 x6)) + 1) + 1) ∧ (((((len' (inI X Y A B most a m x1 x6)) + 1) ≤ ((len' (inI X Y A B most a m x1 x6)) + 1)) ∧ (∀ e20 : E, ((0 ≤ e20.den ∧ e20.den < ((len' (inI X Y A B most a m x1 x6)) + 1)) → (((if (e20.den) = (len' (inI X Y A B most a m x1 x6)) then ((B (x6))) else (selL (inI X Y A B most a m x1 x6) (((e20.den)))))) = (selL (inI X Y A B most a m x1 y18) (e20.den)))))) ∧ (∀ e19 : E, ((e19.den = ((len' (inI X Y A B most a m x1 x6)) + 1)) → (((A (x6))) = (selL (inI X Y A B most a m x1 y18) (e19.den)))))))))) ∧ ((m - y18).toNat < (m - x6).toNat)))))) ∧ ((0 ≤ (fidx (fun i => decide ((if i = (len' (inI X Y A B most a m x1 x6)) then ((B (x6))) else (selL (inI X Y A B most a m x1 x6) ((i)))) = ((A (x6))))) ((len' (inI X Y A B most a m x1 x6)) + 1))) → (∃ y23 : Int, (((0 ≤ x1 ∧ ∀ j : Nat, j < x1.toNat → (j : Int) < len' (ouL X Y A B most a m j)) ∧ (x1 < len' (ouI X Y A B most a m x1)) ∧ 0 ≤ y23 ∧ y23 ≤ m) ∧ ((((n = n) ∧ ((m = m) ∧ ((b = b) ∧ ((most = most) ∧ (((((len' (inI X Y A B most a m x1 x6)) + 1) = (len' (inI X Y A B most a m x1 y23))) ∧ ((((len' (inI X Y A B most a m x1 x6)) + 1) ≤ 21) → ((len' (inI X Y A B most a m x1 y23)) ≤ 20))) ∧ ((x1 = x1) ∧ ((((x6 + 1) = y23) ∧ ((1 ≤ (x6 + 1) ∧ (x6 + 1) ≤ 1048577) → (0 ≤ y23 ∧ y23 ≤ 1048576))) ∧ ((x1 = x1) ∧ (((len' (ouI X Y A B most a m x1)) = (len' (ouI X Y A B most a m x1))) ∧ ((x1 < (len' (ouI X Y A B most a m x1))) ↔ (x1 < (len' (ouI X Y A B most a m x1))))))))))))) ∧ (((n ≤ n) ∧ (∀ e26 : E, ((0 ≤ e26.den ∧ e26.den < n) → ((((X (e26.den))) = ((X (e26.den)))) ∧ (((Y (e26.den))) = ((Y (e26.den)))))))) ∧ (((m ≤ m) ∧ (∀ e25 : E, ((0 ≤ e25.den ∧ e25.den < m) → ((((A (e25.den))) = ((A (e25.den)))) ∧ (((B (e25.den))) = ((B (e25.den)))))))) ∧ (((len' (inI X Y A B most a m x1 y23)) ≤ ((len' (inI X Y A B most a m x1 x6)) + 1)) ∧ (∀ e24 : E, ((0 ≤ e24.den ∧ e24.den < (len' (inI X Y A B most a m x1 y23))) → (((if (e24.den) = (len' (inI X Y A B most a m x1 x6)) then ((B (x6))) else (selL (inI X Y A B most a m x1 x6) (((e24.den)))))) = (selL (inI X Y A B most a m x1 y23) (e24.den))))))))) ∧ ((m - y23).toNat < (m - x6).toNat)))))))))) ∧ ((((B (x6))) ≠ (if decide (x1 < (len' (inI X Y A B most a m x1 x6))) = true then (selL (inI X Y A B most a m x1 x6) ((x1))) else ((B (x6))))) → (∃ y27 : Int, (((0 ≤ x1 ∧ ∀ j : Nat, j < x1.toNat → (j : Int) < len' (ouL X Y A B most a m j)) ∧ (x1 < len' (ouI X Y A B most a m x1)) ∧ 0 ≤ y27 ∧ y27 ≤ m) ∧ ((((n = n) ∧ ((m = m) ∧ ((b = b) ∧ ((most = most) ∧ (((((len' (inI X Y A B most a m x1 x6)) + 1) = (len' (inI X Y A B most a m x1 y27))) ∧ ((((len' (inI X Y A B most a m x1 x6)) + 1) ≤ 21) → ((len' (inI X Y A B most a m x1 y27)) ≤ 20))) ∧ ((x1 = x1) ∧ ((((x6 + 1) = y27) ∧ ((1 ≤ (x6 + 1) ∧ (x6 + 1) ≤ 1048577) → (0 ≤ y27 ∧ y27 ≤ 1048576))) ∧ ((x1 = x1) ∧ (((len' (ouI X Y A B most a m x1)) = (len' (ouI X Y A B most a m x1))) ∧ ((x1 < (len' (ouI X Y A B most a m x1))) ↔ (x1 < (len' (ouI X Y A B most a m x1))))))))))))) ∧ (((n ≤ n) ∧ (∀ e31 : E, ((0 ≤ e31.den ∧ e31.den < n) → ((((X (e31.den))) = ((X (e31.den)))) ∧ (((Y (e31.den))) = ((Y (e31.den)))))))) ∧ (((m ≤ m) ∧ (∀ e30 : E, ((0 ≤ e30.den ∧ e30.den < m) → ((((A (e30.den))) = ((A (e30.den)))) ∧ (((B (e30.den))) = ((B (e30.den)))))))) ∧ (((0 : Int) ≤ (len' (inI X Y A B most a m x1 x6)) ∧ (len' (inI X Y A B most a m x1 y27)) = (len' (inI X Y A B most a m x1 x6)) + 1) ∧ ((((len' (inI X Y A B most a m x1 x6)) ≤ (len' (inI X Y A B most a m x1 x6))) ∧ (∀ e29 : E, ((0 ≤ e29.den ∧ e29.den < (len' (inI X Y A B most a m x1 x6))) → ((selL (inI X Y A B most a m x1 x6) ((e29.den))) = (selL (inI X Y A B most a m x1 y27) (e29.den)))))) ∧ (∀ e28 : E, ((e28.den = (len' (inI X Y A B most a m x1 x6))) → (((B (x6))) = (selL (inI X Y A B most a m x1 y27) (e28.den)))))))))) ∧ ((m - y27).toNat < (m - x6).toNat)))))))))) ∧ ((0 ≤ (fidx (fun i => decide ((selL (inI X Y A B most a m x1 x6) (i)) = ((B (x6))))) (len' (inI X Y A B most a m x1 x6)))) → ((((0 ≤ x1) ∧ (x1 < (len' (inI X Y A B most a m x1 x6))))) ∧ ((x1 < (len' (inI X Y A B most a m x1 x6))) ∧ (((((B (x6))) = (selL (inI X Y A B most a m x1 x6) ((x1)))) → ((((len' (inI X Y A B most a m x1 x6)) = (len' (inI X Y A B most a m x1 x6))) ∧ (((A (x6))) = ((A (x6))))) ∧ ((((len' (inI X Y A B most a m x1 x6)) ≤ (len' (inI X Y A B most a m x1 x6))) ∧ (∀ e32 : E, ((0 ≤ e32.den ∧ e32.den < (len' (inI X Y A B most a m x1 x6))) → ((selL (inI X Y A B most a m x1 x6) ((e32.den))) = (((selL (inI X Y A B most a m x1 x6) (((e32.den)))))))))) ∧ (((-1) ≤ (fidx (fun i => decide ((selL (inI X Y A B most a m x1 x6) ((i))) = ((A (x6))))) (len' (inI X Y A B most a m x1 x6))) ∧ (fidx (fun i => decide ((selL (inI X Y A B most a m x1 x6) ((i))) = ((A (x6))))) (len' (inI X Y A B most a m x1 x6))) ≤ 1048576) → ((((fidx (fun i => decide ((selL (inI X Y A B most a m x1 x6) ((i))) = ((A (x6))))) (len' (inI X Y A B most a m x1 x6))) < 0) → (((len' (inI X Y A B most a m x1 x6)) = (len' (inI X Y A B most a m x1 x6))) ∧ (∃ y33 : Int, (((0 ≤ x1 ∧ ∀ j : Nat, j < x1.toNat → (j : Int) < len' (ouL X Y A B most a m j)) ∧ (x1 < len' (ouI X Y A B most a m x1)) ∧ 0 ≤ y33 ∧ y33 ≤ m) ∧ ((((n = n) ∧ ((m = m) ∧ ((b = b) ∧ ((most = most) ∧ (((((len' (inI X Y A B most a m x1 x6)) + 1) = (len' (inI X Y A B most a m x1 y33))) ∧ ((((len' (inI X Y A B most a m x1 x6)) + 1) ≤ 21) → ((len' (inI X Y A B most a m x1 y33)) ≤ 20))) ∧ ((x1 = x1) ∧ ((((x6 + 1) = y33) ∧ ((1 ≤ (x6 + 1) ∧ (x6 + 1) ≤ 1048577) → (0 ≤ y33 ∧ y33 ≤ 1048576))) ∧ ((x1 = x1) ∧ (((len' (ouI X Y A B most a m x1)) = (len' (ouI X Y A B most a m x1))) ∧ ((x1 < (len' (ouI X Y A B most a m x1))) ↔ (x1 < (len' (ouI X Y A B most a m x1))))))))))))) ∧ (((n ≤ n) ∧ (∀ e37 : E, ((0 ≤ e37.den ∧ e37.den < n) → ((((X (e37.den))) = ((X (e37.den)))) ∧ (((Y (e37.den))) = ((Y (e37.den)))))))) ∧ (((m ≤ m) ∧ (∀ e36 : E, ((0 ≤ e36.den ∧ e36.den < m) → ((((A (e36.den))) = ((A (e36.den)))) ∧ (((B (e36.den))) = ((B (e36.den)))))))) ∧ (((0 : Int) ≤ (len' (inI X Y A B most a m x1 x6)) ∧ (len' (inI X Y A B most a m x1 y33)) = (len' (inI X Y A B most a m x1 x6)) + 1) ∧ ((((len' (inI X Y A B most a m x1 x6)) ≤ (len' (inI X Y A B most a m x1 x6))) ∧ (∀ e35 : E, ((0 ≤ e35.den ∧ e35.den < (len' (inI X Y A B most a m x1 x6))) → ((((selL (inI X Y A B most a m x1 x6) (((e35.den)))))) = (selL (inI X Y A B most a m x1 y33) (e35.den)))))) ∧ (∀ e34 : E, ((e34.den = (len' (inI X Y A B most a m x1 x6))) → (((A (x6))) = (selL (inI X Y A B most a m x1 y33) (e34.den)))))))))) ∧ ((m - y33).toNat < (m - x6).toNat)))))) ∧ ((0 ≤ (fidx (fun i => decide ((selL (inI X Y A B most a m x1 x6) ((i))) = ((A (x6))))) (len' (inI X Y A B most a m x1 x6)))) → (∃ y38 : Int, (((0 ≤ x1 ∧ ∀ j : Nat, j < x1.toNat → (j : Int) < len' (ouL X Y A B most a m j)) ∧ (x1 < len' (ouI X Y A B most a m x1)) ∧ 0 ≤ y38 ∧ y38 ≤ m) ∧ ((((n = n) ∧ ((m = m) ∧ ((b = b) ∧ ((most = most) ∧ (((len' (inI X Y A B most a m x1 x6)) = (len' (inI X Y A B most a m x1 y38))) ∧ ((x1 = x1) ∧ ((((x6 + 1) = y38) ∧ ((1 ≤ (x6 + 1) ∧ (x6 + 1) ≤ 1048577) → (0 ≤ y38 ∧ y38 ≤ 1048576))) ∧ ((x1 = x1) ∧ (((len' (ouI X Y A B most a m x1)) = (len' (ouI X Y A B most a m x1))) ∧ ((x1 < (len' (ouI X Y A B most a m x1))) ↔ (x1 < (len' (ouI X Y A B most a m x1))))))))))))) ∧ (((n ≤ n) ∧ (∀ e41 : E, ((0 ≤ e41.den ∧ e41.den < n) → ((((X (e41.den))) = ((X (e41.den)))) ∧ (((Y (e41.den))) = ((Y (e41.den)))))))) ∧ (((m ≤ m) ∧ (∀ e40 : E, ((0 ≤ e40.den ∧ e40.den < m) → ((((A (e40.den))) = ((A (e40.den)))) ∧ (((B (e40.den))) = ((B (e40.den)))))))) ∧ (((len' (inI X Y A B most a m x1 y38)) ≤ (len' (inI X Y A B most a m x1 x6))) ∧ (∀ e39 : E, ((0 ≤ e39.den ∧ e39.den < (len' (inI X Y A B most a m x1 y38))) → ((((selL (inI X Y A B most a m x1 x6) (((e39.den)))))) = (selL (inI X Y A B most a m x1 y38) (e39.den))))))))) ∧ ((m - y38).toNat < (m - x6).toNat)))))))))) ∧ ((((B (x6))) ≠ (selL (inI X Y A B most a m x1 x6) ((x1)))) → (∃ y42 : Int, (((0 ≤ x1 ∧ ∀ j : Nat, j < x1.toNat → (j : Int) < len' (ouL X Y A B most a m j)) ∧ (x1 < len' (ouI X Y A B most a m x1)) ∧ 0 ≤ y42 ∧ y42 ≤ m) ∧ ((((n = n) ∧ ((m = m) ∧ ((b = b) ∧ ((most = most) ∧ (((len' (inI X Y A B most a m x1 x6)) = (len' (inI X Y A B most a m x1 y42))) ∧ ((x1 = x1) ∧ ((((x6 + 1) = y42) ∧ ((1 ≤ (x6 + 1) ∧ (x6 + 1) ≤ 1048577) → (0 ≤ y42 ∧ y42 ≤ 1048576))) ∧ ((x1 = x1) ∧ (((len' (ouI X Y A B most a m x1)) = (len' (ouI X Y A B most a m x1))) ∧ ((x1 < (len' (ouI X Y A B most a m x1))) ↔ (x1 < (len' (ouI X Y A B most a m x1))))))))))))) ∧ (((n ≤ n) ∧ (∀ e45 : E, ((0 ≤ e45.den ∧ e45.den < n) → ((((X (e45.den))) = ((X (e45.den)))) ∧ (((Y (e45.den))) = ((Y (e45.den)))))))) ∧ (((m ≤ m) ∧ (∀ e44 : E, ((0 ≤ e44.den ∧ e44.den < m) → ((((A (e44.den))) = ((A (e44.den)))) ∧ (((B (e44.den))) = ((B (e44.den)))))))) ∧ (((len' (inI X Y A B most a m x1 y42)) ≤ (len' (inI X Y A B most a m x1 x6))) ∧ (∀ e43 : E, ((0 ≤ e43.den ∧ e43.den < (len' (inI X Y A B most a m x1 y42))) → ((selL (inI X Y A B most a m x1 x6) ((e43.den))) = (selL (inI X Y A B most a m x1 y42) (e43.den))))))))) ∧ ((m - y42).toNat < (m - x6).toNat)))))))))))))) ∧ ((((A (x6))) ≠ (selL (inI X Y A B most a m x1 x6) (x1))) → ((((0 ≤ x1) ∧ (x1 < (len' (inI X Y A B most a m x1 x6))))) ∧ ((x1 < (len' (inI X Y A B most a m x1 x6))) ∧ (((((B (x6))) = (selL (inI X Y A B most a m x1 x6) (x1))) → ((((len' (inI X Y A B most a m x1 x6)) = (len' (inI X Y A B most a m x1 x6))) ∧ (((A (x6))) = ((A (x6))))) ∧ ((((len' (inI X Y A B most a m x1 x6)) ≤ (len' (inI X Y A B most a m x1 x6))) ∧ (∀ e46 : E, ((0 ≤ e46.den ∧ e46.den < (len' (inI X Y A B most a m x1 x6))) → ((selL (inI X Y A B most a m x1 x6) (e46.den)) = (selL (inI X Y A B most a m x1 x6) ((e46.den))))))) ∧ (((-1) ≤ (fidx (fun i => decide ((selL (inI X Y A B most a m x1 x6) (i)) = ((A (x6))))) (len' (inI X Y A B most a m x1 x6))) ∧ (fidx (fun i => decide ((selL (inI X Y A B most a m x1 x6) (i)) = ((A (x6))))) (len' (inI X Y A B most a m x1 x6))) ≤ 1048576) → ((((fidx (fun i => decide ((selL (inI X Y A B most a m x1 x6) (i)) = ((A (x6))))) (len' (inI X Y A B most a m x1 x6))) < 0) → (((len' (inI X Y A B most a m x1 x6)) = (len' (inI X Y A B most a m x1 x6))) ∧ (∃ y47 : Int, (((0 ≤ x1 ∧ ∀ j : Nat, j < x1.toNat → (j : Int) < len' (ouL X Y A B most a m j)) ∧ (x1 < len' (ouI X Y A B most a m x1)) ∧ 0 ≤ y47 ∧ y47 ≤ m) ∧ ((((n = n) ∧ ((m = m) ∧ ((b = b) ∧ ((most = most) ∧ (((((len' (inI X Y A B most a m x1 x6)) + 1) = (len' (inI X Y A B most a m x1 y47))) ∧ ((((len' (inI X Y A B most a m x1 x6)) + 1) ≤ 21) → ((len' (inI X Y A B most a m x1 y47)) ≤ 20))) ∧ ((x1 = x1) ∧ ((((x6 + 1) = y47) ∧ ((1 ≤ (x6 + 1) ∧ (x6 + 1) ≤ 1048577) → (0 ≤ y47 ∧ y47 ≤ 1048576))) ∧ ((x1 = x1) ∧ (((len' (ouI X Y A B most a m x1)) = (len' (ouI X Y A B most a m x1))) ∧ ((x1 < (len' (ouI X Y A B most a m x1))) ↔ (x1 < (len' (ouI X Y A B most a m x1))))))))))))) ∧ (((n ≤ n) ∧ (∀ e51 : E, ((0 ≤ e51.den ∧ e51.den < n) → ((((X (e51.den))) = ((X (e51.den)))) ∧ (((Y (e51.den))) = ((Y (e51.den)))))))) ∧ (((m ≤ m) ∧ (∀ e50 : E, ((0 ≤ e50.den ∧ e50.den < m) → ((((A (e50.den))) = ((A (e50.den)))) ∧ (((B (e50.den))) = ((B (e50.den)))))))) ∧ (((0 : Int) ≤ (len' (inI X Y A B most a m x1 x6)) ∧ (len' (inI X Y A B most a m x1 y47)) = (len' (inI X Y A B most a m x1 x6)) + 1) ∧ ((((len' (inI X Y A B most a m x1 x6)) ≤ (len' (inI X Y A B most a m x1 x6))) ∧ (∀ e49 : E, ((0 ≤ e49.den ∧ e49.den < (len' (inI X Y A B most a m x1 x6))) → ((selL (inI X Y A B most a m x1 x6) ((e49.den))) = (selL (inI X Y A B most a m x1 y47) (e49.den)))))) ∧ (∀ e48 : E, ((e48.den = (len' (inI X Y A B most a m x1 x6))) → (((A (x6))) = (selL (inI X Y A B most a m x1 y47) (e48.den)))))))))) ∧ ((m - y47).toNat < (m - x6).toNat)))))) ∧ ((0 ≤ (fidx (fun i => decide ((selL (inI X Y A B most a m x1 x6) (i)) = ((A (x6))))) (len' (inI X Y A B most a m x1 x6)))) → (∃ y52 : Int, (((0 ≤ x1 ∧ ∀ j : Nat, j < x1.toNat → (j : Int) < len' (ouL X Y A B most a m j)) ∧ (x1 < len' (ouI X Y A B most a m x1)) ∧ 0 ≤ y52 ∧ y52 ≤ m) ∧ ((((n = n) ∧ ((m = m) ∧ ((b = b) ∧ ((most = most) ∧ (((len' (inI X Y A B most a m x1 x6)) = (len' (inI X Y A B most a m x1 y52))) ∧ ((x1 = x1) ∧ ((((x6 + 1) = y52) ∧ ((1 ≤ (x6 + 1) ∧ (x6 + 1) ≤ 1048577) → (0 ≤ y52 ∧ y52 ≤ 1048576))) ∧ ((x1 = x1) ∧ (((len' (ouI X Y A B most a m x1)) = (len' (ouI X Y A B most a m x1))) ∧ ((x1 < (len' (ouI X Y A B most a m x1))) ↔ (x1 < (len' (ouI X Y A B most a m x1))))))))))))) ∧ (((n ≤ n) ∧ (∀ e55 : E, ((0 ≤ e55.den ∧ e55.den < n) → ((((X (e55.den))) = ((X (e55.den)))) ∧ (((Y (e55.den))) = ((Y (e55.den)))))))) ∧ (((m ≤ m) ∧ (∀ e54 : E, ((0 ≤ e54.den ∧ e54.den < m) → ((((A (e54.den))) = ((A (e54.den)))) ∧ (((B (e54.den))) = ((B (e54.den)))))))) ∧ (((len' (inI X Y A B most a m x1 y52)) ≤ (len' (inI X Y A B most a m x1 x6))) ∧ (∀ e53 : E, ((0 ≤ e53.den ∧ e53.den < (len' (inI X Y A B most a m x1 y52))) → ((selL (inI X Y A B most a m x1 x6) ((e53.den))) = (selL (inI X Y A B most a m x1 y52) (e53.den))))))))) ∧ ((m - y52).toNat < (m - x6).toNat)))))))))) ∧ ((((B (x6))) ≠ (selL (inI X Y A B most a m x1 x6) (x1))) → (∃ y56 : Int, (((0 ≤ x1 ∧ ∀ j : Nat, j < x1.toNat → (j : Int) < len' (ouL X Y A B most a m j)) ∧ (x1 < len' (ouI X Y A B most a m x1)) ∧ 0 ≤ y56 ∧ y56 ≤ m) ∧ ((((n = n) ∧ ((m = m) ∧ ((b = b) ∧ ((most = most) ∧ (((len' (inI X Y A B most a m x1 x6)) = (len' (inI X Y A B most a m x1 y56))) ∧ ((x1 = x1) ∧ ((((x6 + 1) = y56) ∧ ((1 ≤ (x6 + 1) ∧ (x6 + 1) ≤ 1048577) → (0 ≤ y56 ∧ y56 ≤ 1048576))) ∧ ((x1 = x1) ∧ (((len' (ouI X Y A B most a m x1)) = (len' (ouI X Y A B most a m x1))) ∧ ((x1 < (len' (ouI X Y A B most a m x1))) ↔ (x1 < (len' (ouI X Y A B most a m x1))))))))))))) ∧ (((n ≤ n) ∧ (∀ e59 : E, ((0 ≤ e59.den ∧ e59.den < n) → ((((X (e59.den))) = ((X (e59.den)))) ∧ (((Y (e59.den))) = ((Y (e59.den)))))))) ∧ (((m ≤ m) ∧ (∀ e58 : E, ((0 ≤ e58.den ∧ e58.den < m) → ((((A (e58.den))) = ((A (e58.den)))) ∧ (((B (e58.den))) = ((B (e58.den)))))))) ∧ (((len' (inI X Y A B most a m x1 y56)) ≤ (len' (inI X Y A B most a m x1 x6))) ∧ (∀ e57 : E, ((0 ≤ e57.den ∧ e57.den < (len' (inI X Y A B most a m x1 y56))) → ((selL (inI X Y A B most a m x1 x6) (e57.den)) = (selL (inI X Y A B most a m x1 y56) (e57.den))))))))) ∧ ((m - y56).toNat < (m - x6).toNat)))))))))))))))))))))) ∧ ((m ≤ x6) → (∃ y60 : Int, ((0 ≤ y60 ∧ ∀ j : Nat, j < y60.toNat → (j : Int) < len' (ouL X Y A B most a m j)) ∧ ((((n = n) ∧ ((m = m) ∧ ((b = b) ∧ ((most = most) ∧ (((len' (inI X Y A B most a m x1 x6)) = (len' (ouI X Y A B most a m y60))) ∧ (((x1 + 1) = y60) ∧ ((1 ≤ (x1 + 1) ∧ (x1 + 1) ≤ 21) → (0 ≤ y60 ∧ y60 ≤ 20)))))))) ∧ (((n ≤ n) ∧ (∀ e63 : E, ((0 ≤ e63.den ∧ e63.den < n) → ((((X (e63.den))) = ((X (e63.den)))) ∧ (((Y (e63.den))) = ((Y (e63.den)))))))) ∧ (((m ≤ m) ∧ (∀ e62 : E, ((0 ≤ e62.den ∧ e62.den < m) → ((((A (e62.den))) = ((A (e62.den)))) ∧ (((B (e62.den))) = ((B (e62.den)))))))) ∧ (((len' (ouI X Y A B most a m y60)) ≤ (len' (inI X Y A B most a m x1 x6))) ∧ (∀ e61 : E, ((0 ≤ e61.den ∧ e61.den < (len' (ouI X Y A B most a m y60))) → ((selL (inI X Y A B most a m x1 x6) (e61.den)) = (selL (ouI X Y A B most a m y60) (e61.den))))))))) ∧ ((20 - y60).toNat < (20 - x1).toNat)))))))))) ∧ (((len' (ouI X Y A B most a m x1)) ≤ x1) → ((((len' (ouI X Y A B most a m x1)) = (len' (ouI X Y A B most a m x1))) ∧ (b = b)) ∧ ((((len' (ouI X Y A B most a m x1)) ≤ (len' (ouI X Y A B most a m x1))) ∧ (∀ e64 : E, ((0 ≤ e64.den ∧ e64.den < (len' (ouI X Y A B most a m x1))) → ((selL (ouI X Y A B most a m x1) (e64.den)) = (selL (ouI X Y A B most a m x1) ((e64.den))))))) ∧ (((-1) ≤ (fidx (fun i => decide ((selL (ouI X Y A B most a m x1) (i)) = b)) (len' (ouI X Y A B most a m x1))) ∧ (fidx (fun i => decide ((selL (ouI X Y A B most a m x1) (i)) = b)) (len' (ouI X Y A B most a m x1))) ≤ 1048576) → (((0 ≤ (fidx (fun i => decide ((selL (ouI X Y A B most a m x1) (i)) = b)) (len' (ouI X Y A B most a m x1)))) ↔ ((lnk X Y A B m most a b) = true)) ∧ (((n ≤ n) ∧ (∀ e66 : E, ((0 ≤ e66.den ∧ e66.den < n) → ((((X (e66.den))) = ((X (e66.den)))) ∧ (((Y (e66.den))) = ((Y (e66.den)))))))) ∧ ((m ≤ m) ∧ (∀ e65 : E, ((0 ≤ e65.den ∧ e65.den < m) → ((((A (e65.den))) = ((A (e65.den)))) ∧ (((B (e65.den))) = ((B (e65.den))))))))))))))))))) (by kernel_rfl) ?_
  intro h1 h2
  refine ⟨?_, ?_⟩
  · refine ⟨0, ?_⟩
    try dsimp only
    refine ⟨?_, ?_, ⟨Int.le_refl _, fun _ => fun _ => ⟨rfl, rfl⟩⟩, ⟨Int.le_refl _, fun _ => fun _ => ⟨rfl, rfl⟩⟩, ?_, ?_⟩
    · exact ⟨Int.le_refl _, fun j hj => by simp at hj⟩
    · refine ⟨rfl, rfl, rfl, rfl, ?_, ?_⟩
      · rfl
      · rfl
    · rfl
    · intro e3
      intro c69
      rw [ouI_0, show e3.den = 0 by omega]; rfl
  · intro i
    intro I1
    refine ⟨?_, ?_⟩
    · intro c70
      refine ⟨?_, ?_⟩
      · refine ⟨0, ?_⟩
        try dsimp only
        refine ⟨?_, ?_, ⟨Int.le_refl _, fun _ => fun _ => ⟨rfl, rfl⟩⟩, ⟨Int.le_refl _, fun _ => fun _ => ⟨rfl, rfl⟩⟩, ?_, ?_⟩
        · exact ⟨I1, by assumption, by omega, by omega⟩
        · refine ⟨rfl, rfl, rfl, rfl, ?_, rfl, ?_, rfl, rfl, Iff.rfl⟩
          · rfl
          · rfl
        · exact Int.le_refl _
        · intro e8
          intro c71
          rfl
      · intro k
        intro I2
        refine ⟨?_, ?_⟩
        · intro c72
          refine ⟨?_, ?_, ?_, ?_, ?_, ?_, ⟨⟨rfl, rfl⟩, ⟨rfl, rfl⟩⟩, ?_, ?_⟩
          · omega
          · omega
          · have he := hp.1 k (by omega) (by omega); omega
          · have he := hp.1 k (by omega) (by omega); omega
          · have he := hp.1 k (by omega) (by omega); omega
          · have he := hp.1 k (by omega) (by omega); omega
          · intro c73
            refine ⟨k + 1, ?_⟩
            try dsimp only
            refine ⟨?_, ?_, ?_⟩
            · exact ⟨I2.1, I2.2.1, by omega, by omega⟩
            · refine ⟨?_, ⟨Int.le_refl _, fun _ => fun _ => ⟨rfl, rfl⟩⟩, ⟨Int.le_refl _, fun _ => fun _ => ⟨rfl, rfl⟩⟩, ?_, ?_⟩
              · refine ⟨rfl, rfl, rfl, rfl, ?_, rfl, ?_, rfl, rfl, Iff.rfl⟩
                · have hb := in_bd (k := k) (most := most) hp.1 h1.2.1.1 hp.2.2 I2.1 I2.2.1 (by omega) (by omega); have e := st_no (X := X) (Y := Y) (A := A) (B := B) (most := most) (a := a) (m := m) (i := i) (k := k) (by omega) (by omega); (rw [e]; done)
                · refine ⟨?_, ?_⟩
                  · rfl
                  · intro c74
                    omega
              · have hb := in_bd (k := k) (most := most) hp.1 h1.2.1.1 hp.2.2 I2.1 I2.2.1 (by omega) (by omega); have e := st_no (X := X) (Y := Y) (A := A) (B := B) (most := most) (a := a) (m := m) (i := i) (k := k) (by omega) (by omega); (rw [e]; exact Int.le_refl _)
              · intro e12
                intro c75
                have hb := in_bd (k := k) (most := most) hp.1 h1.2.1.1 hp.2.2 I2.1 I2.2.1 (by omega) (by omega); have e := st_no (X := X) (Y := Y) (A := A) (B := B) (most := most) (a := a) (m := m) (i := i) (k := k) (by omega) (by omega); (rw [e]; done)
            · omega
          · intro c76
            refine ⟨?_, ?_, ?_, ?_⟩
            · have hb := in_bd (k := k) (most := most) hp.1 h1.2.1.1 hp.2.2 I2.1 I2.2.1 (by omega) (by omega); omega
            · have hb := in_bd (k := k) (most := most) hp.1 h1.2.1.1 hp.2.2 I2.1 I2.2.1 (by omega) (by omega); omega
            · intro c77
              refine ⟨⟨rfl, rfl⟩, ⟨Int.le_refl _, fun _ => fun _ => rfl⟩, ?_⟩
              intro c78
              refine ⟨?_, ?_⟩
              · intro c79
                refine ⟨?_, ?_, ?_, ?_, ?_⟩
                · rfl
                · have hb := in_bd (k := k) (most := most) hp.1 h1.2.1.1 hp.2.2 I2.1 I2.2.1 (by omega) (by omega); omega
                · have hb := in_bd (k := k) (most := most) hp.1 h1.2.1.1 hp.2.2 I2.1 I2.2.1 (by omega) (by omega); omega
                · intro c80
                  refine ⟨⟨rfl, rfl⟩, ?_, ?_⟩
                  · refine ⟨?_, ?_, ?_⟩
                    · have hb := in_bd (k := k) (most := most) hp.1 h1.2.1.1 hp.2.2 I2.1 I2.2.1 (by omega) (by omega); omega
                    · refine ⟨Int.le_refl _, ?_⟩
                      intro e17
                      intro c81
                      omega
                    · intro e16
                      intro c82
                      omega
                  · intro c83
                    refine ⟨?_, ?_⟩
                    · intro c84
                      refine ⟨?_, ?_⟩
                      · rfl
                      · refine ⟨k + 1, ?_⟩
                        try dsimp only
                        refine ⟨?_, ?_, ?_⟩
                        · exact ⟨I2.1, I2.2.1, by omega, by omega⟩
                        · refine ⟨?_, ⟨Int.le_refl _, fun _ => fun _ => ⟨rfl, rfl⟩⟩, ⟨Int.le_refl _, fun _ => fun _ => ⟨rfl, rfl⟩⟩, ?_, ?_, ?_⟩
                          · refine ⟨rfl, rfl, rfl, rfl, ?_, rfl, ?_, rfl, rfl, Iff.rfl⟩
                            · refine ⟨?_, ?_⟩
                              · have hb := in_bd (k := k) (most := most) hp.1 h1.2.1.1 hp.2.2 I2.1 I2.2.1 (by omega) (by omega); (exact (st_11 (by omega) hb.1 (by assumption) (by assumption)).elim)
                              · intro c85
                                have hb := in_bd (k := k) (most := most) hp.1 h1.2.1.1 hp.2.2 I2.1 I2.2.1 (by omega) (by omega); (exact (st_11 (by omega) hb.1 (by assumption) (by assumption)).elim)
                            · refine ⟨?_, ?_⟩
                              · rfl
                              · intro c86
                                omega
                          · have hb := in_bd (k := k) (most := most) hp.1 h1.2.1.1 hp.2.2 I2.1 I2.2.1 (by omega) (by omega); (exact (st_11 (by omega) hb.1 (by assumption) (by assumption)).elim)
                          · refine ⟨Int.le_refl _, ?_⟩
                            intro e20
                            intro c87
                            have hb := in_bd (k := k) (most := most) hp.1 h1.2.1.1 hp.2.2 I2.1 I2.2.1 (by omega) (by omega); (exact (st_11 (by omega) hb.1 (by assumption) (by assumption)).elim)
                          · intro e19
                            intro c88
                            have hb := in_bd (k := k) (most := most) hp.1 h1.2.1.1 hp.2.2 I2.1 I2.2.1 (by omega) (by omega); (exact (st_11 (by omega) hb.1 (by assumption) (by assumption)).elim)
                        · omega
                    · intro c89
                      refine ⟨k + 1, ?_⟩
                      try dsimp only
                      refine ⟨?_, ?_, ?_⟩
                      · exact ⟨I2.1, I2.2.1, by omega, by omega⟩
                      · refine ⟨?_, ⟨Int.le_refl _, fun _ => fun _ => ⟨rfl, rfl⟩⟩, ⟨Int.le_refl _, fun _ => fun _ => ⟨rfl, rfl⟩⟩, ?_, ?_⟩
                        · refine ⟨rfl, rfl, rfl, rfl, ?_, rfl, ?_, rfl, rfl, Iff.rfl⟩
                          · refine ⟨?_, ?_⟩
                            · have hb := in_bd (k := k) (most := most) hp.1 h1.2.1.1 hp.2.2 I2.1 I2.2.1 (by omega) (by omega); have e := st_10 (X := X) (Y := Y) (A := A) (B := B) (most := most) (a := a) (m := m) (i := i) (k := k) (by omega) (by omega) (by omega) hb.1 (by assumption) (plc.1 (by assumption)); (rw [e, len'_snoc]; done)
                            · intro c90
                              have hb := in_bd (k := k) (most := most) hp.1 h1.2.1.1 hp.2.2 I2.1 I2.2.1 (by omega) (by omega); (have hb3 := in_bd (k := k + 1) (most := most) hp.1 h1.2.1.1 hp.2.2 I2.1 I2.2.1 (by omega) (by omega); omega)
                          · refine ⟨?_, ?_⟩
                            · rfl
                            · intro c91
                              omega
                        · have hb := in_bd (k := k) (most := most) hp.1 h1.2.1.1 hp.2.2 I2.1 I2.2.1 (by omega) (by omega); have e := st_10 (X := X) (Y := Y) (A := A) (B := B) (most := most) (a := a) (m := m) (i := i) (k := k) (by omega) (by omega) (by omega) hb.1 (by assumption) (plc.1 (by assumption)); (rw [e, len'_snoc]; omega)
                        · intro e24
                          intro c92
                          have hb := in_bd (k := k) (most := most) hp.1 h1.2.1.1 hp.2.2 I2.1 I2.2.1 (by omega) (by omega); have e := st_10 (X := X) (Y := Y) (A := A) (B := B) (most := most) (a := a) (m := m) (i := i) (k := k) (by omega) (by omega) (by omega) hb.1 (by assumption) (plc.1 (by assumption)); (have el := congrArg len' e; rw [len'_snoc] at el; rw [e]; exact sn_if (by omega) (by omega))
                      · omega
                · intro c93
                  refine ⟨k + 1, ?_⟩
                  try dsimp only
                  refine ⟨?_, ?_, ?_⟩
                  · exact ⟨I2.1, I2.2.1, by omega, by omega⟩
                  · refine ⟨?_, ⟨Int.le_refl _, fun _ => fun _ => ⟨rfl, rfl⟩⟩, ⟨Int.le_refl _, fun _ => fun _ => ⟨rfl, rfl⟩⟩, ?_, ?_, ?_⟩
                    · refine ⟨rfl, rfl, rfl, rfl, ?_, rfl, ?_, rfl, rfl, Iff.rfl⟩
                      · refine ⟨?_, ?_⟩
                        · have hb := in_bd (k := k) (most := most) hp.1 h1.2.1.1 hp.2.2 I2.1 I2.2.1 (by omega) (by omega); have e := st_10 (X := X) (Y := Y) (A := A) (B := B) (most := most) (a := a) (m := m) (i := i) (k := k) (by omega) (by omega) (by omega) hb.1 (by assumption) (plc.1 (by assumption)); (rw [e, len'_snoc]; done)
                        · intro c94
                          have hb := in_bd (k := k) (most := most) hp.1 h1.2.1.1 hp.2.2 I2.1 I2.2.1 (by omega) (by omega); (have hb3 := in_bd (k := k + 1) (most := most) hp.1 h1.2.1.1 hp.2.2 I2.1 I2.2.1 (by omega) (by omega); omega)
                      · refine ⟨?_, ?_⟩
                        · rfl
                        · intro c95
                          omega
                    · have hb := in_bd (k := k) (most := most) hp.1 h1.2.1.1 hp.2.2 I2.1 I2.2.1 (by omega) (by omega); have e := st_10 (X := X) (Y := Y) (A := A) (B := B) (most := most) (a := a) (m := m) (i := i) (k := k) (by omega) (by omega) (by omega) hb.1 (by assumption) (plc.1 (by assumption)); (rw [e, len'_snoc]; omega)
                    · refine ⟨Int.le_refl _, ?_⟩
                      intro e29
                      intro c96
                      have hb := in_bd (k := k) (most := most) hp.1 h1.2.1.1 hp.2.2 I2.1 I2.2.1 (by omega) (by omega); have e := st_10 (X := X) (Y := Y) (A := A) (B := B) (most := most) (a := a) (m := m) (i := i) (k := k) (by omega) (by omega) (by omega) hb.1 (by assumption) (plc.1 (by assumption)); (rw [e, selL_old (by omega) (by omega)]; done)
                    · intro e28
                      intro c97
                      have hb := in_bd (k := k) (most := most) hp.1 h1.2.1.1 hp.2.2 I2.1 I2.2.1 (by omega) (by omega); have e := st_10 (X := X) (Y := Y) (A := A) (B := B) (most := most) (a := a) (m := m) (i := i) (k := k) (by omega) (by omega) (by omega) hb.1 (by assumption) (plc.1 (by assumption)); (rw [e, selL_new (by omega)]; done)
                  · omega
              · intro c98
                refine ⟨?_, ?_, ?_, ?_⟩
                · have hb := in_bd (k := k) (most := most) hp.1 h1.2.1.1 hp.2.2 I2.1 I2.2.1 (by omega) (by omega); omega
                · have hb := in_bd (k := k) (most := most) hp.1 h1.2.1.1 hp.2.2 I2.1 I2.2.1 (by omega) (by omega); omega
                · intro c99
                  refine ⟨⟨rfl, rfl⟩, ⟨Int.le_refl _, fun _ => fun _ => rfl⟩, ?_⟩
                  intro c100
                  refine ⟨?_, ?_⟩
                  · intro c101
                    refine ⟨?_, ?_⟩
                    · rfl
                    · refine ⟨k + 1, ?_⟩
                      try dsimp only
                      refine ⟨?_, ?_, ?_⟩
                      · exact ⟨I2.1, I2.2.1, by omega, by omega⟩
                      · refine ⟨?_, ⟨Int.le_refl _, fun _ => fun _ => ⟨rfl, rfl⟩⟩, ⟨Int.le_refl _, fun _ => fun _ => ⟨rfl, rfl⟩⟩, ?_, ?_, ?_⟩
                        · refine ⟨rfl, rfl, rfl, rfl, ?_, rfl, ?_, rfl, rfl, Iff.rfl⟩
                          · refine ⟨?_, ?_⟩
                            · have hb := in_bd (k := k) (most := most) hp.1 h1.2.1.1 hp.2.2 I2.1 I2.2.1 (by omega) (by omega); have e := st_01 (X := X) (Y := Y) (A := A) (B := B) (most := most) (a := a) (m := m) (i := i) (k := k) (by omega) (by omega) (by (first | exact .inl (by assumption) | exact .inr (plc1 (by assumption)))) (by assumption) (plc.1 (by assumption)); (rw [e, len'_snoc]; done)
                            · intro c102
                              have hb := in_bd (k := k) (most := most) hp.1 h1.2.1.1 hp.2.2 I2.1 I2.2.1 (by omega) (by omega); (have hb3 := in_bd (k := k + 1) (most := most) hp.1 h1.2.1.1 hp.2.2 I2.1 I2.2.1 (by omega) (by omega); omega)
                          · refine ⟨?_, ?_⟩
                            · rfl
                            · intro c103
                              omega
                        · have hb := in_bd (k := k) (most := most) hp.1 h1.2.1.1 hp.2.2 I2.1 I2.2.1 (by omega) (by omega); have e := st_01 (X := X) (Y := Y) (A := A) (B := B) (most := most) (a := a) (m := m) (i := i) (k := k) (by omega) (by omega) (by (first | exact .inl (by assumption) | exact .inr (plc1 (by assumption)))) (by assumption) (plc.1 (by assumption)); (rw [e, len'_snoc]; omega)
                        · refine ⟨Int.le_refl _, ?_⟩
                          intro e35
                          intro c104
                          have hb := in_bd (k := k) (most := most) hp.1 h1.2.1.1 hp.2.2 I2.1 I2.2.1 (by omega) (by omega); have e := st_01 (X := X) (Y := Y) (A := A) (B := B) (most := most) (a := a) (m := m) (i := i) (k := k) (by omega) (by omega) (by (first | exact .inl (by assumption) | exact .inr (plc1 (by assumption)))) (by assumption) (plc.1 (by assumption)); (rw [e, selL_old (by omega) (by omega)]; done)
                        · intro e34
                          intro c105
                          have hb := in_bd (k := k) (most := most) hp.1 h1.2.1.1 hp.2.2 I2.1 I2.2.1 (by omega) (by omega); have e := st_01 (X := X) (Y := Y) (A := A) (B := B) (most := most) (a := a) (m := m) (i := i) (k := k) (by omega) (by omega) (by (first | exact .inl (by assumption) | exact .inr (plc1 (by assumption)))) (by assumption) (plc.1 (by assumption)); (rw [e, selL_new (by omega)]; done)
                      · omega
                  · intro c106
                    refine ⟨k + 1, ?_⟩
                    try dsimp only
                    refine ⟨?_, ?_, ?_⟩
                    · exact ⟨I2.1, I2.2.1, by omega, by omega⟩
                    · refine ⟨?_, ⟨Int.le_refl _, fun _ => fun _ => ⟨rfl, rfl⟩⟩, ⟨Int.le_refl _, fun _ => fun _ => ⟨rfl, rfl⟩⟩, ?_, ?_⟩
                      · refine ⟨rfl, rfl, rfl, rfl, ?_, rfl, ?_, rfl, rfl, Iff.rfl⟩
                        · have hb := in_bd (k := k) (most := most) hp.1 h1.2.1.1 hp.2.2 I2.1 I2.2.1 (by omega) (by omega); have e := st_00 (X := X) (Y := Y) (A := A) (B := B) (most := most) (a := a) (m := m) (i := i) (k := k) (by omega) (by omega) (by (first | exact .inl (by assumption) | exact .inr (plc1 (by assumption)))) (by (first | exact .inl (by assumption) | exact .inr (plc1 (by assumption)))); (rw [e]; done)
                        · refine ⟨?_, ?_⟩
                          · rfl
                          · intro c107
                            omega
                      · have hb := in_bd (k := k) (most := most) hp.1 h1.2.1.1 hp.2.2 I2.1 I2.2.1 (by omega) (by omega); have e := st_00 (X := X) (Y := Y) (A := A) (B := B) (most := most) (a := a) (m := m) (i := i) (k := k) (by omega) (by omega) (by (first | exact .inl (by assumption) | exact .inr (plc1 (by assumption)))) (by (first | exact .inl (by assumption) | exact .inr (plc1 (by assumption)))); (rw [e]; exact Int.le_refl _)
                      · intro e39
                        intro c108
                        have hb := in_bd (k := k) (most := most) hp.1 h1.2.1.1 hp.2.2 I2.1 I2.2.1 (by omega) (by omega); have e := st_00 (X := X) (Y := Y) (A := A) (B := B) (most := most) (a := a) (m := m) (i := i) (k := k) (by omega) (by omega) (by (first | exact .inl (by assumption) | exact .inr (plc1 (by assumption)))) (by (first | exact .inl (by assumption) | exact .inr (plc1 (by assumption)))); (rw [e]; done)
                    · omega
                · intro c109
                  refine ⟨k + 1, ?_⟩
                  try dsimp only
                  refine ⟨?_, ?_, ?_⟩
                  · exact ⟨I2.1, I2.2.1, by omega, by omega⟩
                  · refine ⟨?_, ⟨Int.le_refl _, fun _ => fun _ => ⟨rfl, rfl⟩⟩, ⟨Int.le_refl _, fun _ => fun _ => ⟨rfl, rfl⟩⟩, ?_, ?_⟩
                    · refine ⟨rfl, rfl, rfl, rfl, ?_, rfl, ?_, rfl, rfl, Iff.rfl⟩
                      · have hb := in_bd (k := k) (most := most) hp.1 h1.2.1.1 hp.2.2 I2.1 I2.2.1 (by omega) (by omega); have e := st_00 (X := X) (Y := Y) (A := A) (B := B) (most := most) (a := a) (m := m) (i := i) (k := k) (by omega) (by omega) (by (first | exact .inl (by assumption) | exact .inr (plc1 (by assumption)))) (by (first | exact .inl (by assumption) | exact .inr (plc1 (by assumption)))); (rw [e]; done)
                      · refine ⟨?_, ?_⟩
                        · rfl
                        · intro c110
                          omega
                    · have hb := in_bd (k := k) (most := most) hp.1 h1.2.1.1 hp.2.2 I2.1 I2.2.1 (by omega) (by omega); have e := st_00 (X := X) (Y := Y) (A := A) (B := B) (most := most) (a := a) (m := m) (i := i) (k := k) (by omega) (by omega) (by (first | exact .inl (by assumption) | exact .inr (plc1 (by assumption)))) (by (first | exact .inl (by assumption) | exact .inr (plc1 (by assumption)))); (rw [e]; exact Int.le_refl _)
                    · intro e43
                      intro c111
                      have hb := in_bd (k := k) (most := most) hp.1 h1.2.1.1 hp.2.2 I2.1 I2.2.1 (by omega) (by omega); have e := st_00 (X := X) (Y := Y) (A := A) (B := B) (most := most) (a := a) (m := m) (i := i) (k := k) (by omega) (by omega) (by (first | exact .inl (by assumption) | exact .inr (plc1 (by assumption)))) (by (first | exact .inl (by assumption) | exact .inr (plc1 (by assumption)))); (rw [e]; done)
                  · omega
            · intro c112
              refine ⟨?_, ?_, ?_, ?_⟩
              · have hb := in_bd (k := k) (most := most) hp.1 h1.2.1.1 hp.2.2 I2.1 I2.2.1 (by omega) (by omega); omega
              · have hb := in_bd (k := k) (most := most) hp.1 h1.2.1.1 hp.2.2 I2.1 I2.2.1 (by omega) (by omega); omega
              · intro c113
                refine ⟨⟨rfl, rfl⟩, ⟨Int.le_refl _, fun _ => fun _ => rfl⟩, ?_⟩
                intro c114
                refine ⟨?_, ?_⟩
                · intro c115
                  refine ⟨?_, ?_⟩
                  · rfl
                  · refine ⟨k + 1, ?_⟩
                    try dsimp only
                    refine ⟨?_, ?_, ?_⟩
                    · exact ⟨I2.1, I2.2.1, by omega, by omega⟩
                    · refine ⟨?_, ⟨Int.le_refl _, fun _ => fun _ => ⟨rfl, rfl⟩⟩, ⟨Int.le_refl _, fun _ => fun _ => ⟨rfl, rfl⟩⟩, ?_, ?_, ?_⟩
                      · refine ⟨rfl, rfl, rfl, rfl, ?_, rfl, ?_, rfl, rfl, Iff.rfl⟩
                        · refine ⟨?_, ?_⟩
                          · have hb := in_bd (k := k) (most := most) hp.1 h1.2.1.1 hp.2.2 I2.1 I2.2.1 (by omega) (by omega); have e := st_01 (X := X) (Y := Y) (A := A) (B := B) (most := most) (a := a) (m := m) (i := i) (k := k) (by omega) (by omega) (by (first | exact .inl (by assumption) | exact .inr (plc1 (by assumption)))) (by assumption) (plc.1 (by assumption)); (rw [e, len'_snoc]; done)
                          · intro c116
                            have hb := in_bd (k := k) (most := most) hp.1 h1.2.1.1 hp.2.2 I2.1 I2.2.1 (by omega) (by omega); (have hb3 := in_bd (k := k + 1) (most := most) hp.1 h1.2.1.1 hp.2.2 I2.1 I2.2.1 (by omega) (by omega); omega)
                        · refine ⟨?_, ?_⟩
                          · rfl
                          · intro c117
                            omega
                      · have hb := in_bd (k := k) (most := most) hp.1 h1.2.1.1 hp.2.2 I2.1 I2.2.1 (by omega) (by omega); have e := st_01 (X := X) (Y := Y) (A := A) (B := B) (most := most) (a := a) (m := m) (i := i) (k := k) (by omega) (by omega) (by (first | exact .inl (by assumption) | exact .inr (plc1 (by assumption)))) (by assumption) (plc.1 (by assumption)); (rw [e, len'_snoc]; omega)
                      · refine ⟨Int.le_refl _, ?_⟩
                        intro e49
                        intro c118
                        have hb := in_bd (k := k) (most := most) hp.1 h1.2.1.1 hp.2.2 I2.1 I2.2.1 (by omega) (by omega); have e := st_01 (X := X) (Y := Y) (A := A) (B := B) (most := most) (a := a) (m := m) (i := i) (k := k) (by omega) (by omega) (by (first | exact .inl (by assumption) | exact .inr (plc1 (by assumption)))) (by assumption) (plc.1 (by assumption)); (rw [e, selL_old (by omega) (by omega)]; done)
                      · intro e48
                        intro c119
                        have hb := in_bd (k := k) (most := most) hp.1 h1.2.1.1 hp.2.2 I2.1 I2.2.1 (by omega) (by omega); have e := st_01 (X := X) (Y := Y) (A := A) (B := B) (most := most) (a := a) (m := m) (i := i) (k := k) (by omega) (by omega) (by (first | exact .inl (by assumption) | exact .inr (plc1 (by assumption)))) (by assumption) (plc.1 (by assumption)); (rw [e, selL_new (by omega)]; done)
                    · omega
                · intro c120
                  refine ⟨k + 1, ?_⟩
                  try dsimp only
                  refine ⟨?_, ?_, ?_⟩
                  · exact ⟨I2.1, I2.2.1, by omega, by omega⟩
                  · refine ⟨?_, ⟨Int.le_refl _, fun _ => fun _ => ⟨rfl, rfl⟩⟩, ⟨Int.le_refl _, fun _ => fun _ => ⟨rfl, rfl⟩⟩, ?_, ?_⟩
                    · refine ⟨rfl, rfl, rfl, rfl, ?_, rfl, ?_, rfl, rfl, Iff.rfl⟩
                      · have hb := in_bd (k := k) (most := most) hp.1 h1.2.1.1 hp.2.2 I2.1 I2.2.1 (by omega) (by omega); have e := st_00 (X := X) (Y := Y) (A := A) (B := B) (most := most) (a := a) (m := m) (i := i) (k := k) (by omega) (by omega) (by (first | exact .inl (by assumption) | exact .inr (plc1 (by assumption)))) (by (first | exact .inl (by assumption) | exact .inr (plc1 (by assumption)))); (rw [e]; done)
                      · refine ⟨?_, ?_⟩
                        · rfl
                        · intro c121
                          omega
                    · have hb := in_bd (k := k) (most := most) hp.1 h1.2.1.1 hp.2.2 I2.1 I2.2.1 (by omega) (by omega); have e := st_00 (X := X) (Y := Y) (A := A) (B := B) (most := most) (a := a) (m := m) (i := i) (k := k) (by omega) (by omega) (by (first | exact .inl (by assumption) | exact .inr (plc1 (by assumption)))) (by (first | exact .inl (by assumption) | exact .inr (plc1 (by assumption)))); (rw [e]; exact Int.le_refl _)
                    · intro e53
                      intro c122
                      have hb := in_bd (k := k) (most := most) hp.1 h1.2.1.1 hp.2.2 I2.1 I2.2.1 (by omega) (by omega); have e := st_00 (X := X) (Y := Y) (A := A) (B := B) (most := most) (a := a) (m := m) (i := i) (k := k) (by omega) (by omega) (by (first | exact .inl (by assumption) | exact .inr (plc1 (by assumption)))) (by (first | exact .inl (by assumption) | exact .inr (plc1 (by assumption)))); (rw [e]; done)
                  · omega
              · intro c123
                refine ⟨k + 1, ?_⟩
                try dsimp only
                refine ⟨?_, ?_, ?_⟩
                · exact ⟨I2.1, I2.2.1, by omega, by omega⟩
                · refine ⟨?_, ⟨Int.le_refl _, fun _ => fun _ => ⟨rfl, rfl⟩⟩, ⟨Int.le_refl _, fun _ => fun _ => ⟨rfl, rfl⟩⟩, ?_, ?_⟩
                  · refine ⟨rfl, rfl, rfl, rfl, ?_, rfl, ?_, rfl, rfl, Iff.rfl⟩
                    · have hb := in_bd (k := k) (most := most) hp.1 h1.2.1.1 hp.2.2 I2.1 I2.2.1 (by omega) (by omega); have e := st_00 (X := X) (Y := Y) (A := A) (B := B) (most := most) (a := a) (m := m) (i := i) (k := k) (by omega) (by omega) (by (first | exact .inl (by assumption) | exact .inr (plc1 (by assumption)))) (by (first | exact .inl (by assumption) | exact .inr (plc1 (by assumption)))); (rw [e]; done)
                    · refine ⟨?_, ?_⟩
                      · rfl
                      · intro c124
                        omega
                  · have hb := in_bd (k := k) (most := most) hp.1 h1.2.1.1 hp.2.2 I2.1 I2.2.1 (by omega) (by omega); have e := st_00 (X := X) (Y := Y) (A := A) (B := B) (most := most) (a := a) (m := m) (i := i) (k := k) (by omega) (by omega) (by (first | exact .inl (by assumption) | exact .inr (plc1 (by assumption)))) (by (first | exact .inl (by assumption) | exact .inr (plc1 (by assumption)))); (rw [e]; exact Int.le_refl _)
                  · intro e57
                    intro c125
                    have hb := in_bd (k := k) (most := most) hp.1 h1.2.1.1 hp.2.2 I2.1 I2.2.1 (by omega) (by omega); have e := st_00 (X := X) (Y := Y) (A := A) (B := B) (most := most) (a := a) (m := m) (i := i) (k := k) (by omega) (by omega) (by (first | exact .inl (by assumption) | exact .inr (plc1 (by assumption)))) (by (first | exact .inl (by assumption) | exact .inr (plc1 (by assumption)))); (rw [e]; done)
                · omega
        · intro c126
          refine ⟨i + 1, ?_⟩
          try dsimp only
          refine ⟨?_, ?_, ?_⟩
          · exact ou_next I2.1 I2.2.1
          · refine ⟨?_, ⟨Int.le_refl _, fun _ => fun _ => ⟨rfl, rfl⟩⟩, ⟨Int.le_refl _, fun _ => fun _ => ⟨rfl, rfl⟩⟩, ?_, ?_⟩
            · refine ⟨rfl, rfl, rfl, rfl, ?_, ?_, ?_⟩
              · rw [show k = m by omega, ouI_nx (by omega)]; done
              · rfl
              · intro c127
                have hb := ou_bd (X := X) (Y := Y) (most := most) hp.1 h1.2.1.1 hp.2.2 I1; omega
            · rw [show k = m by omega, ouI_nx (by omega)]; exact Int.le_refl _
            · intro e61
              intro c128
              rw [show k = m by omega, ouI_nx (by omega)]; done
          · have hb := ou_bd (X := X) (Y := Y) (most := most) hp.1 h1.2.1.1 hp.2.2 I1; omega
    · intro c129
      refine ⟨⟨rfl, rfl⟩, ⟨Int.le_refl _, fun _ => fun _ => rfl⟩, ?_⟩
      intro c130
      refine ⟨?_, ⟨Int.le_refl _, fun _ => fun _ => ⟨rfl, rfl⟩⟩, Int.le_refl _, fun _ => fun _ => ⟨rfl, rfl⟩⟩
      exact ou_end hp.1 h1.2.1.1 hp.2.2 I1 (by omega) b
def c_s_linked (X : Int → Int) (Y : Int → Int) (n : Int) (A : Int → Int) (B : Int → Int) (m : Int) (a : Int) (b : Int) (most : Int) : CnH Try.prog := ⟨_, _, _, _, _, _, s_linked X Y n A B m a b most⟩
end Go.Proofs.Ytcfkpdjbjfnnmaa
