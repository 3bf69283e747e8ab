/- Circles that have all points. -/
import Derived.Test.YtcfkpdjbjfnnmaaK22
import Derived.Test.YtcfkpdjbjfnnmaaK17
set_option linter.unusedSimpArgs false
set_option linter.unusedVariables false
set_option maxRecDepth 100000
namespace Go.Proofs.Ytcfkpdjbjfnnmaa
open Go.Sym
def enB (X Y : Int → Int) (m qx qy : Int) : Bool := if m = 1 then decide (X 0 = qx) && decide (Y 0 = qy) else if m = 2 then decide (dt3 qx qy (X 0) (Y 0) (X 1) (Y 1) ≤ 0) else decide (0 ≤ sgn (circ (X 0) (Y 0) (X 1) (Y 1) (X 2) (Y 2) qx qy) * sgn (trn (X 0) (Y 0) (X 1) (Y 1) (X 2) (Y 2)))
def eaB (X Y : Int → Int) (n : Int) (A : Int → Int) (m : Int) : Bool := allB (fun i => enB (fun k => X (A k)) (fun k => Y (A k)) m (X i) (Y i)) n
def ecB (X Y : Int → Int) (n : Int) (A : Int → Int) (m : Int) : Bool := dtB (fun i => X (A i)) (fun i => Y (A i)) m && eaB X Y n A m
def ckB (X Y : Int → Int) (n : Int) (A : Int → Int) (m : Int) : Bool := listB X Y n && (ixB A m n && ecB X Y n A m)
theorem en_1 {X Y : Int → Int} {m qx qy : Int} (h : m = 1) : enB X Y m qx qy = (decide (X 0 = qx) && decide (Y 0 = qy)) := by unfold enB; rw [if_pos h]
theorem en_2 {X Y : Int → Int} {m qx qy : Int} (h : m = 2) : enB X Y m qx qy = decide (dt3 qx qy (X 0) (Y 0) (X 1) (Y 1) ≤ 0) := by unfold enB; rw [if_neg (by omega), if_pos h]
theorem en_3 {X Y : Int → Int} {m qx qy : Int} (h : m ≠ 1) (h2 : m ≠ 2) : enB X Y m qx qy = decide (0 ≤ sgn (circ (X 0) (Y 0) (X 1) (Y 1) (X 2) (Y 2) qx qy) * sgn (trn (X 0) (Y 0) (X 1) (Y 1) (X 2) (Y 2))) := by unfold enB; rw [if_neg h, if_neg h2]
theorem i_encloses (X : Int → Int) (Y : Int → Int) (m : Int) (qX : Int) (qY : Int) (hp : m = 1 ∨ m = 2 ∨ m = 3) : RunsTo Try.prog 119 [(.sl 0 2 (.lit 0) (.v fun _ => m) 1048576), (.agg [(.int .i64 (.v fun _ => qX) (-1000) 1000), (.int .i64 (.v fun _ => qY) (-1000) 1000)])] [some ⟨50, 2, true, (.sym (.v fun _ => m) fun e => [(.int .i64 (.v fun _ => (X (e.den))) (-1000) 1000), (.int .i64 (.v fun _ => (Y (e.den))) (-1000) 1000)])⟩] (.bool (.v fun _ => enB X Y m qX qY)) [some ⟨50, 2, true, (.sym (.v fun _ => m) fun e => [(.int .i64 (.v fun _ => (X (e.den))) (-1000) 1000), (.int .i64 (.v fun _ => (Y (e.den))) (-1000) 1000)])⟩] := by
  refine RunsTo.go env Try.func119 rfl Try.call119 rfl rfl (fun _ _ => (.ite (.need (.need .ret)) (.ite (.need (.need (.call (c_i_minus ((X (0))) ((Y (0))) qX qY) (.need (.need (.call (c_i_minus ((X (1))) ((Y (1))) qX qY) (.call (c_i_dot (((X (0))) - qX) (((Y (0))) - qY) (((X (1))) - qX) (((Y (1))) - qY)) .ret))))))) (.need (.need (.need (.need (.need (.need (.call (c_i_inCircle ((X (0))) ((Y (0))) ((X (1))) ((Y (1))) ((X (2))) ((Y (2))) qX qY) .ret)))))))))) (G := ((0 ≤ m ∧ m ≤ 1048576) ∧ (((-1000) ≤ qX ∧ qX ≤ 1000) ∧ ((-1000) ≤ qY ∧ qY ≤ 1000))) → (∀ e4 : E, ((0 ≤ e4.den ∧ e4.den < m) → (((-1000) ≤ ((X (e4.den))) ∧ ((X (e4.den))) ≤ 1000) ∧ ((-1000) ≤ ((Y (e4.den))) ∧ ((Y (e4.den))) ≤ 1000)))) → (((m = 1) → ((0 < m) ∧ ((0 < m) ∧ (((((((X (0))) = qX) ∧ (((Y (0))) = qY))) ↔ ((enB X Y m qX qY) = true)) ∧ ((m ≤ m) ∧ (∀ e1 : E, ((0 ≤ e1.den ∧ e1.den < m) → ((((X (e1.den))) = ((X (e1.den)))) ∧ (((Y (e1.den))) = ((Y (e1.den)))))))))))) ∧ ((m ≠ 1) → (((m = 2) → ((0 < m) ∧ ((0 < m) ∧ ((((((X (0))) = ((X (0)))) ∧ (((Y (0))) = ((Y (0))))) ∧ ((qX = qX) ∧ (qY = qY))) ∧ ((1 < m) ∧ ((1 < m) ∧ ((((((X (1))) = ((X (1)))) ∧ (((Y (1))) = ((Y (1))))) ∧ ((qX = qX) ∧ (qY = qY))) ∧ (((((((X (0))) - qX) = (((X (0))) - qX)) ∧ ((((Y (0))) - qY) = (((Y (0))) - qY))) ∧ (((((X (1))) - qX) = (((X (1))) - qX)) ∧ ((((Y (1))) - qY) = (((Y (1))) - qY)))) ∧ (((((((X (0))) - qX) * (((X (1))) - qX) + (((Y (0))) - qY) * (((Y (1))) - qY)) ≤ 0) ↔ ((enB X Y m qX qY) = true)) ∧ ((m ≤ m) ∧ (∀ e2 : E, ((0 ≤ e2.den ∧ e2.den < m) → ((((X (e2.den))) = ((X (e2.den)))) ∧ (((Y (e2.den))) = ((Y (e2.den))))))))))))))))) ∧ ((m ≠ 2) → ((0 < m) ∧ ((0 < m) ∧ ((1 < m) ∧ ((1 < m) ∧ ((2 < m) ∧ ((2 < m) ∧ ((((((X (0))) = ((X (0)))) ∧ (((Y (0))) = ((Y (0))))) ∧ (((((X (1))) = ((X (1)))) ∧ (((Y (1))) = ((Y (1))))) ∧ (((((X (2))) = ((X (2)))) ∧ (((Y (2))) = ((Y (2))))) ∧ ((qX = qX) ∧ (qY = qY))))) ∧ (((0 ≤ (sgn (circ ((X (0))) ((Y (0))) ((X (1))) ((Y (1))) ((X (2))) ((Y (2))) qX qY) * sgn (trn ((X (0))) ((Y (0))) ((X (1))) ((Y (1))) ((X (2))) ((Y (2)))))) ↔ ((enB X Y m qX qY) = true)) ∧ ((m ≤ m) ∧ (∀ e3 : E, ((0 ≤ e3.den ∧ e3.den < m) → ((((X (e3.den))) = ((X (e3.den)))) ∧ (((Y (e3.den))) = ((Y (e3.den))))))))))))))))))))) (by kernel_rfl) ?_
  intro h1 h2
  refine ⟨?_, ?_⟩
  · intro c5
    refine ⟨?_, ?_, ?_, Int.le_refl _, fun _ => fun _ => ⟨rfl, rfl⟩⟩
    · omega
    · omega
    · rw [en_1 (by assumption)]; (simp; done)
  · intro c6
    refine ⟨?_, ?_⟩
    · intro c7
      refine ⟨?_, ?_, ⟨⟨rfl, rfl⟩, ⟨rfl, rfl⟩⟩, ?_, ?_, ⟨⟨rfl, rfl⟩, ⟨rfl, rfl⟩⟩, ⟨⟨rfl, rfl⟩, ⟨rfl, rfl⟩⟩, ?_, Int.le_refl _, fun _ => fun _ => ⟨rfl, rfl⟩⟩
      · omega
      · omega
      · omega
      · omega
      · rw [en_2 (by assumption)]; (rw [decide_eq_true_eq]; exact Iff.rfl)
    · intro c8
      refine ⟨?_, ?_, ?_, ?_, ?_, ?_, ⟨⟨rfl, rfl⟩, ⟨⟨rfl, rfl⟩, ⟨⟨rfl, rfl⟩, ⟨rfl, rfl⟩⟩⟩⟩, ?_, Int.le_refl _, fun _ => fun _ => ⟨rfl, rfl⟩⟩
      · omega
      · omega
      · omega
      · omega
      · omega
      · omega
      · rw [en_3 (by assumption) (by assumption)]; (rw [decide_eq_true_eq]; done)
def c_i_encloses (X : Int → Int) (Y : Int → Int) (m : Int) (qX : Int) (qY : Int) : CnH Try.prog := ⟨_, _, _, _, _, _, i_encloses X Y m qX qY⟩
theorem enclosing1 (X : Int → Int) (Y : Int → Int) (m : Int) (qX : Int) (qY : Int) (hp : m = 1 ∨ m = 2 ∨ m = 3) : RunsTo Try.prog 118 [(.agg [(.int .i64 (.v fun _ => qX) (-1000) 1000), (.int .i64 (.v fun _ => qY) (-1000) 1000)]), (.ptr 0 1 (.lit 0) 0)] [some ⟨27, 1, true, (.lit [[(.sl 1 2 (.lit 0) (.v fun _ => m) 1048576)]])⟩, some ⟨50, 2, true, (.sym (.v fun _ => m) fun e => [(.int .i64 (.v fun _ => (X (e.den))) (-1000) 1000), (.int .i64 (.v fun _ => (Y (e.den))) (-1000) 1000)])⟩] (.bool (.v fun _ => !(enB X Y m qX qY))) [some ⟨27, 1, true, (.lit [[(.sl 1 2 (.lit 0) (.v fun _ => m) 1048576)]])⟩, some ⟨50, 2, true, (.sym (.v fun _ => m) fun e => [(.int .i64 (.v fun _ => (X (e.den))) (-1000) 1000), (.int .i64 (.v fun _ => (Y (e.den))) (-1000) 1000)])⟩] := by
  refine RunsTo.go env Try.func118 rfl Try.call118 rfl rfl (fun _ _ => (.callH (c_i_encloses X Y m qX qY) .ret)) (G := (((-1000) ≤ qX ∧ qX ≤ 1000) ∧ ((-1000) ≤ qY ∧ qY ≤ 1000)) → ((0 ≤ m ∧ m ≤ 1048576) ∧ (∀ e3 : E, ((0 ≤ e3.den ∧ e3.den < m) → (((-1000) ≤ ((X (e3.den))) ∧ ((X (e3.den))) ≤ 1000) ∧ ((-1000) ≤ ((Y (e3.den))) ∧ ((Y (e3.den))) ≤ 1000))))) → ((m = 1 ∨ m = 2 ∨ m = 3) ∧ (((m = m) ∧ ((qX = qX) ∧ (qY = qY))) ∧ (((m ≤ m) ∧ (∀ e1 : E, ((0 ≤ e1.den ∧ e1.den < m) → ((((X (e1.den))) = ((X (e1.den)))) ∧ (((Y (e1.den))) = ((Y (e1.den)))))))) ∧ ((((enB X Y m qX qY) = false) ↔ ((!(enB X Y m qX qY)) = true)) ∧ ((m = m) ∧ ((m ≤ m) ∧ (∀ e2 : E, ((0 ≤ e2.den ∧ e2.den < m) → ((((X (e2.den))) = ((X (e2.den)))) ∧ (((Y (e2.den))) = ((Y (e2.den)))))))))))))) (by kernel_rfl) ?_
  intro h1 h2
  refine ⟨?_, ⟨rfl, ⟨rfl, rfl⟩⟩, ⟨Int.le_refl _, fun _ => fun _ => ⟨rfl, rfl⟩⟩, ?_, rfl, Int.le_refl _, fun _ => fun _ => ⟨rfl, rfl⟩⟩
  · exact hp
  · simp; done
def c_enclosing1 (X : Int → Int) (Y : Int → Int) (m : Int) (qX : Int) (qY : Int) : CnH Try.prog := ⟨_, _, _, _, _, _, enclosing1 X Y m qX qY⟩
theorem IndexFunc_en (X : Int → Int) (Y : Int → Int) (m : Int) (U : Int → Int) (V : Int → Int) (n : Int) (hp : m = 1 ∨ m = 2 ∨ m = 3) : RunsTo Try.prog 137 [(.sl 0 2 (.lit 0) (.v fun _ => n) 1048576), (.fn 118 [(.ptr 1 1 (.lit 0) 0)])] [some ⟨50, 2, true, (.sym (.v fun _ => n) fun e => [(.int .i64 (.v fun _ => (U (e.den))) (-1000) 1000), (.int .i64 (.v fun _ => (V (e.den))) (-1000) 1000)])⟩, some ⟨27, 1, true, (.lit [[(.sl 2 2 (.lit 0) (.v fun _ => m) 1048576)]])⟩, some ⟨50, 2, true, (.sym (.v fun _ => m) fun e => [(.int .i64 (.v fun _ => (X (e.den))) (-1000) 1000), (.int .i64 (.v fun _ => (Y (e.den))) (-1000) 1000)])⟩] (.int .i64 (.v fun _ => fidx (fun i => !(enB X Y m (U (i)) (V (i)))) n) (-1) 1048576) [some ⟨50, 2, true, (.sym (.v fun _ => n) fun e => [(.int .i64 (.v fun _ => (U (e.den))) (-1000) 1000), (.int .i64 (.v fun _ => (V (e.den))) (-1000) 1000)])⟩, some ⟨27, 1, true, (.lit [[(.sl 2 2 (.lit 0) (.v fun _ => m) 1048576)]])⟩, some ⟨50, 2, true, (.sym (.v fun _ => m) fun e => [(.int .i64 (.v fun _ => (X (e.den))) (-1000) 1000), (.int .i64 (.v fun _ => (Y (e.den))) (-1000) 1000)])⟩] := by
  refine RunsTo.go env Try.func137 rfl Try.call137 rfl rfl (fun _ _ => (.loop [] [0, 1, 2] (Int) (fun x1 => ⟨spl 19 0 [(0, (.sl 0 2 (.lit 0) (.v fun _ => n) 1048576)), (1, (.fn 118 [(.ptr 1 1 (.lit 0) 0)])), (7, (.int .i64 (.v fun _ => n) 0 1048576)), (8, (.int .i64 (.v fun _ => x1) 0 1048576))], [some ⟨50, 2, true, (.sym (.v fun _ => n) fun e => [(.int .i64 (.v fun _ => (U (e.den))) (-1000) 1000), (.int .i64 (.v fun _ => (V (e.den))) (-1000) 1000)])⟩, some ⟨27, 1, true, (.lit [[(.sl 2 2 (.lit 0) (.v fun _ => m) 1048576)]])⟩, some ⟨50, 2, true, (.sym (.v fun _ => m) fun e => [(.int .i64 (.v fun _ => (X (e.den))) (-1000) 1000), (.int .i64 (.v fun _ => (Y (e.den))) (-1000) 1000)])⟩], 3⟩) (fun x1 => (0 ≤ x1 ∧ x1 ≤ n) ∧ ∀ i, 0 ≤ i → i < x1 → (!(enB X Y m (U (i)) (V (i)))) = false) (fun x1 => (n - x1).toNat) fun x1 => (.ite (.need (.need (.callH (c_enclosing1 X Y m ((U (x1))) ((V (x1)))) (.ite (.out .ret) (.next [0, 1, 2]))))) (.out .ret)))) (G := (0 ≤ n ∧ n ≤ 1048576) → ((∀ e14 : E, ((0 ≤ e14.den ∧ e14.den < n) → (((-1000) ≤ ((U (e14.den))) ∧ ((U (e14.den))) ≤ 1000) ∧ ((-1000) ≤ ((V (e14.den))) ∧ ((V (e14.den))) ≤ 1000)))) ∧ ((0 ≤ m ∧ m ≤ 1048576) ∧ (∀ e13 : E, ((0 ≤ e13.den ∧ e13.den < m) → (((-1000) ≤ ((X (e13.den))) ∧ ((X (e13.den))) ≤ 1000) ∧ ((-1000) ≤ ((Y (e13.den))) ∧ ((Y (e13.den))) ≤ 1000)))))) → ((∃ y2 : Int, (((0 ≤ y2 ∧ y2 ≤ n) ∧ ∀ i, 0 ≤ i → i < y2 → (!(enB X Y m (U (i)) (V (i)))) = false) ∧ (((n = n) ∧ ((n = n) ∧ ((0 : Int) = y2))) ∧ (((n ≤ n) ∧ (∀ e4 : E, ((0 ≤ e4.den ∧ e4.den < n) → ((((U (e4.den))) = ((U (e4.den)))) ∧ (((V (e4.den))) = ((V (e4.den)))))))) ∧ ((m = m) ∧ ((m ≤ m) ∧ (∀ e3 : E, ((0 ≤ e3.den ∧ e3.den < m) → ((((X (e3.den))) = ((X (e3.den)))) ∧ (((Y (e3.den))) = ((Y (e3.den))))))))))))) ∧ (∀ x1 : Int, (((0 ≤ x1 ∧ x1 ≤ n) ∧ ∀ i, 0 ≤ i → i < x1 → (!(enB X Y m (U (i)) (V (i)))) = false) → (((x1 < n) → ((((0 ≤ x1) ∧ (x1 < n))) ∧ ((x1 < n) ∧ ((m = 1 ∨ m = 2 ∨ m = 3) ∧ (((((U (x1))) = ((U (x1)))) ∧ (((V (x1))) = ((V (x1))))) ∧ (((m = m) ∧ ((m ≤ m) ∧ (∀ e5 : E, ((0 ≤ e5.den ∧ e5.den < m) → ((((X (e5.den))) = ((X (e5.den)))) ∧ (((Y (e5.den))) = ((Y (e5.den))))))))) ∧ ((((!(enB X Y m ((U (x1))) ((V (x1))))) = true) → ((x1 = (fidx (fun i => !(enB X Y m (U (i)) (V (i)))) n)) ∧ (((n ≤ n) ∧ (∀ e7 : E, ((0 ≤ e7.den ∧ e7.den < n) → ((((U (e7.den))) = ((U (e7.den)))) ∧ (((V (e7.den))) = ((V (e7.den)))))))) ∧ ((m = m) ∧ ((m ≤ m) ∧ (∀ e6 : E, ((0 ≤ e6.den ∧ e6.den < m) → ((((X (e6.den))) = ((X (e6.den)))) ∧ (((Y (e6.den))) = ((Y (e6.den)))))))))))) ∧ (((!(enB X Y m ((U (x1))) ((V (x1))))) = false) → (∃ y8 : Int, (((0 ≤ y8 ∧ y8 ≤ n) ∧ ∀ i, 0 ≤ i → i < y8 → (!(enB X Y m (U (i)) (V (i)))) = false) ∧ ((((n = n) ∧ ((n = n) ∧ (((x1 + 1) = y8) ∧ ((1 ≤ (x1 + 1) ∧ (x1 + 1) ≤ 1048577) → (0 ≤ y8 ∧ y8 ≤ 1048576))))) ∧ (((n ≤ n) ∧ (∀ e10 : E, ((0 ≤ e10.den ∧ e10.den < n) → ((((U (e10.den))) = ((U (e10.den)))) ∧ (((V (e10.den))) = ((V (e10.den)))))))) ∧ ((m = m) ∧ ((m ≤ m) ∧ (∀ e9 : E, ((0 ≤ e9.den ∧ e9.den < m) → ((((X (e9.den))) = ((X (e9.den)))) ∧ (((Y (e9.den))) = ((Y (e9.den))))))))))) ∧ ((n - y8).toNat < (n - x1).toNat)))))))))))) ∧ ((n ≤ x1) → ((((-1) : Int) = (fidx (fun i => !(enB X Y m (U (i)) (V (i)))) n)) ∧ (((n ≤ n) ∧ (∀ e12 : E, ((0 ≤ e12.den ∧ e12.den < n) → ((((U (e12.den))) = ((U (e12.den)))) ∧ (((V (e12.den))) = ((V (e12.den)))))))) ∧ ((m = m) ∧ ((m ≤ m) ∧ (∀ e11 : E, ((0 ≤ e11.den ∧ e11.den < m) → ((((X (e11.den))) = ((X (e11.den)))) ∧ (((Y (e11.den))) = ((Y (e11.den))))))))))))))))) (by kernel_rfl) ?_
  intro h1 h2
  have hb := fidx_bd (fun i => !(enB X Y m (U (i)) (V (i)))) h1.1
  refine ⟨?_, ?_⟩
  · refine ⟨0, ?_⟩
    try dsimp only
    refine ⟨?_, ?_, ⟨Int.le_refl _, fun _ => fun _ => ⟨rfl, rfl⟩⟩, rfl, Int.le_refl _, fun _ => fun _ => ⟨rfl, rfl⟩⟩
    · exact ⟨by omega, fun i a b => by omega⟩
    · refine ⟨rfl, rfl, ?_⟩
      rfl
  · intro j
    intro I1
    refine ⟨?_, ?_⟩
    · intro c15
      refine ⟨?_, ?_, ?_, ⟨rfl, rfl⟩, ⟨rfl, ⟨Int.le_refl _, fun _ => fun _ => ⟨rfl, rfl⟩⟩⟩, ?_, ?_⟩
      · omega
      · omega
      · omega
      · intro c16
        refine ⟨?_, ⟨Int.le_refl _, fun _ => fun _ => ⟨rfl, rfl⟩⟩, rfl, Int.le_refl _, fun _ => fun _ => ⟨rfl, rfl⟩⟩
        exact (fidx_found I1.1.1 (by omega) (by assumption) I1.2).symm
      · intro c17
        refine ⟨j + 1, ?_⟩
        try dsimp only
        refine ⟨?_, ?_, ?_⟩
        · refine ⟨by omega, fun i a b => ?_⟩; by_cases e : i = j; (subst e; assumption); exact I1.2 i a (by omega)
        · refine ⟨?_, ⟨Int.le_refl _, fun _ => fun _ => ⟨rfl, rfl⟩⟩, rfl, Int.le_refl _, fun _ => fun _ => ⟨rfl, rfl⟩⟩
          refine ⟨rfl, rfl, ?_, ?_⟩
          · rfl
          · intro c18
            omega
        · omega
    · intro c19
      refine ⟨?_, ⟨Int.le_refl _, fun _ => fun _ => ⟨rfl, rfl⟩⟩, rfl, Int.le_refl _, fun _ => fun _ => ⟨rfl, rfl⟩⟩
      exact (fidx_none fun i a b => I1.2 i a (by omega)).symm
def c_IndexFunc_en (X : Int → Int) (Y : Int → Int) (m : Int) (U : Int → Int) (V : Int → Int) (n : Int) : CnH Try.prog := ⟨_, _, _, _, _, _, IndexFunc_en X Y m U V n⟩
theorem ContainsFunc_en (X : Int → Int) (Y : Int → Int) (m : Int) (U : Int → Int) (V : Int → Int) (n : Int) (hp : m = 1 ∨ m = 2 ∨ m = 3) : RunsTo Try.prog 117 [(.sl 0 2 (.lit 0) (.v fun _ => n) 1048576), (.fn 118 [(.ptr 1 1 (.lit 0) 0)])] [some ⟨50, 2, true, (.sym (.v fun _ => n) fun e => [(.int .i64 (.v fun _ => (U (e.den))) (-1000) 1000), (.int .i64 (.v fun _ => (V (e.den))) (-1000) 1000)])⟩, some ⟨27, 1, true, (.lit [[(.sl 2 2 (.lit 0) (.v fun _ => m) 1048576)]])⟩, some ⟨50, 2, true, (.sym (.v fun _ => m) fun e => [(.int .i64 (.v fun _ => (X (e.den))) (-1000) 1000), (.int .i64 (.v fun _ => (Y (e.den))) (-1000) 1000)])⟩] (.bool (.v fun _ => decide (0 ≤ fidx (fun i => !(enB X Y m (U (i)) (V (i)))) n))) [some ⟨50, 2, true, (.sym (.v fun _ => n) fun e => [(.int .i64 (.v fun _ => (U (e.den))) (-1000) 1000), (.int .i64 (.v fun _ => (V (e.den))) (-1000) 1000)])⟩, some ⟨27, 1, true, (.lit [[(.sl 2 2 (.lit 0) (.v fun _ => m) 1048576)]])⟩, some ⟨50, 2, true, (.sym (.v fun _ => m) fun e => [(.int .i64 (.v fun _ => (X (e.den))) (-1000) 1000), (.int .i64 (.v fun _ => (Y (e.den))) (-1000) 1000)])⟩] := by
  refine RunsTo.go env Try.func117 rfl Try.call117 rfl rfl (fun _ _ => (.callH (c_IndexFunc_en X Y m U V n) .ret)) (G := (0 ≤ n ∧ n ≤ 1048576) → ((∀ e6 : E, ((0 ≤ e6.den ∧ e6.den < n) → (((-1000) ≤ ((U (e6.den))) ∧ ((U (e6.den))) ≤ 1000) ∧ ((-1000) ≤ ((V (e6.den))) ∧ ((V (e6.den))) ≤ 1000)))) ∧ ((0 ≤ m ∧ m ≤ 1048576) ∧ (∀ e5 : E, ((0 ≤ e5.den ∧ e5.den < m) → (((-1000) ≤ ((X (e5.den))) ∧ ((X (e5.den))) ≤ 1000) ∧ ((-1000) ≤ ((Y (e5.den))) ∧ ((Y (e5.den))) ≤ 1000)))))) → ((m = 1 ∨ m = 2 ∨ m = 3) ∧ ((n = n) ∧ ((((n ≤ n) ∧ (∀ e2 : E, ((0 ≤ e2.den ∧ e2.den < n) → ((((U (e2.den))) = ((U (e2.den)))) ∧ (((V (e2.den))) = ((V (e2.den)))))))) ∧ ((m = m) ∧ ((m ≤ m) ∧ (∀ e1 : E, ((0 ≤ e1.den ∧ e1.den < m) → ((((X (e1.den))) = ((X (e1.den)))) ∧ (((Y (e1.den))) = ((Y (e1.den)))))))))) ∧ (((0 ≤ (fidx (fun i => !(enB X Y m ((U (i))) ((V (i))))) n)) ↔ ((decide (0 ≤ fidx (fun i => !(enB X Y m (U (i)) (V (i)))) n)) = true)) ∧ (((n ≤ n) ∧ (∀ e4 : E, ((0 ≤ e4.den ∧ e4.den < n) → ((((U (e4.den))) = ((U (e4.den)))) ∧ (((V (e4.den))) = ((V (e4.den)))))))) ∧ ((m = m) ∧ ((m ≤ m) ∧ (∀ e3 : E, ((0 ≤ e3.den ∧ e3.den < m) → ((((X (e3.den))) = ((X (e3.den)))) ∧ (((Y (e3.den))) = ((Y (e3.den))))))))))))))) (by kernel_rfl) ?_
  intro h1 h2
  refine ⟨?_, rfl, ⟨⟨Int.le_refl _, fun _ => fun _ => ⟨rfl, rfl⟩⟩, ⟨rfl, ⟨Int.le_refl _, fun _ => fun _ => ⟨rfl, rfl⟩⟩⟩⟩, ?_, ⟨Int.le_refl _, fun _ => fun _ => ⟨rfl, rfl⟩⟩, rfl, Int.le_refl _, fun _ => fun _ => ⟨rfl, rfl⟩⟩
  · exact hp
  · simp; done
def c_ContainsFunc_en (X : Int → Int) (Y : Int → Int) (m : Int) (U : Int → Int) (V : Int → Int) (n : Int) : CnH Try.prog := ⟨_, _, _, _, _, _, ContainsFunc_en X Y m U V n⟩
theorem ec_no {X Y : Int → Int} {n : Int} {A : Int → Int} {m : Int} (h : dtB (fun i => X (A i)) (fun i => Y (A i)) m = false) : ecB X Y n A m = false := by unfold ecB; rw [h]; rfl
theorem ec_m {X Y : Int → Int} {A : Int → Int} {m : Int} (h : dtB (fun i => X (A i)) (fun i => Y (A i)) m = true) : m = 1 ∨ m = 2 ∨ m = 3 := by
  rcases dtB_n h with h | h | h
  · exact .inl h
  · exact .inr (.inl h)
  · exact .inr (.inr h.1)
theorem ec_idx {X Y : Int → Int} {n : Int} {A : Int → Int} {m : Int} (h : dtB (fun i => X (A i)) (fun i => Y (A i)) m = true) : fidx (fun i => !(enB (fun k => X (A k)) (fun k => Y (A k)) m (X i) (Y i))) n < 0 ↔ ecB X Y n A m = true := by
  rw [fidx_neg (q := fun i => enB (fun k => X (A k)) (fun k => Y (A k)) m (X i) (Y i))]
  unfold ecB eaB
  rw [h, Bool.true_and]
theorem i_enclosing (X : Int → Int) (Y : Int → Int) (n : Int) (A : Int → Int) (m : Int) (hp : ∀ i, 0 ≤ i → i < m → 0 ≤ A i ∧ A i < n) : RunsTo Try.prog 72 [(.sl 0 2 (.lit 0) (.v fun _ => n) 1048576), (.sl 1 1 (.lit 0) (.v fun _ => m) 1048576)] [some ⟨50, 2, true, (.sym (.v fun _ => n) fun e => [(.int .i64 (.v fun _ => (X (e.den))) (-1000) 1000), (.int .i64 (.v fun _ => (Y (e.den))) (-1000) 1000)])⟩, some ⟨3, 1, true, (.sym (.v fun _ => m) fun e => [(.int .i64 (.v fun _ => (A (e.den))) (-9223372036854775808) 9223372036854775807)])⟩] (.bool (.v fun _ => ecB X Y n A m)) [some ⟨50, 2, true, (.sym (.v fun _ => n) fun e => [(.int .i64 (.v fun _ => (X (e.den))) (-1000) 1000), (.int .i64 (.v fun _ => (Y (e.den))) (-1000) 1000)])⟩, some ⟨3, 1, true, (.sym (.v fun _ => m) fun e => [(.int .i64 (.v fun _ => (A (e.den))) (-9223372036854775808) 9223372036854775807)])⟩] := by
  refine RunsTo.go env Try.func72 rfl Try.call72 rfl rfl (fun _ _ => (.callH (c_i_chosen X Y n A m) (.call (c_i_determines ((fun ι => ((X (((A ((ι))))))))) ((fun ι => ((Y (((A ((ι))))))))) m) (.ite (.callH (c_ContainsFunc_en ((fun ι => (((X (((A (((ι))))))))))) ((fun ι => (((Y (((A (((ι))))))))))) m X Y n) .ret) .ret)))) (G := ((0 ≤ n ∧ n ≤ 1048576) ∧ (0 ≤ m ∧ m ≤ 1048576)) → ((∀ e11 : E, ((0 ≤ e11.den ∧ e11.den < n) → (((-1000) ≤ ((X (e11.den))) ∧ ((X (e11.den))) ≤ 1000) ∧ ((-1000) ≤ ((Y (e11.den))) ∧ ((Y (e11.den))) ≤ 1000)))) ∧ (∀ e10 : E, ((0 ≤ e10.den ∧ e10.den < m) → ((-9223372036854775808) ≤ ((A (e10.den))) ∧ ((A (e10.den))) ≤ 9223372036854775807)))) → ((∀ i, 0 ≤ i → i < m → 0 ≤ A i ∧ A i < n) ∧ (((n = n) ∧ (m = m)) ∧ ((((n ≤ n) ∧ (∀ e2 : E, ((0 ≤ e2.den ∧ e2.den < n) → ((((X (e2.den))) = ((X (e2.den)))) ∧ (((Y (e2.den))) = ((Y (e2.den)))))))) ∧ ((m ≤ m) ∧ (∀ e1 : E, ((0 ≤ e1.den ∧ e1.den < m) → (((A (e1.den))) = ((A (e1.den)))))))) ∧ ((m = m) ∧ (((m ≤ m) ∧ (∀ e3 : E, ((0 ≤ e3.den ∧ e3.den < m) → (((((X (((A ((e3.den)))))))) = ((((X (((A (((e3.den))))))))))) ∧ ((((Y (((A ((e3.den)))))))) = ((((Y (((A (((e3.den))))))))))))))) ∧ ((((dtB ((fun ι => ((X (((A ((ι))))))))) ((fun ι => ((Y (((A ((ι))))))))) m) = true) → ((m = 1 ∨ m = 2 ∨ m = 3) ∧ ((n = n) ∧ ((((n ≤ n) ∧ (∀ e5 : E, ((0 ≤ e5.den ∧ e5.den < n) → ((((X (e5.den))) = ((X (e5.den)))) ∧ (((Y (e5.den))) = ((Y (e5.den)))))))) ∧ ((m = m) ∧ ((m ≤ m) ∧ (∀ e4 : E, ((0 ≤ e4.den ∧ e4.den < m) → ((((((X (((A (((e4.den)))))))))) = (((((X (((A ((((e4.den))))))))))))) ∧ (((((Y (((A (((e4.den)))))))))) = (((((Y (((A ((((e4.den))))))))))))))))))) ∧ ((((decide (0 ≤ fidx (fun i => !(enB ((fun ι => (((X (((A (((ι))))))))))) ((fun ι => (((Y (((A (((ι))))))))))) m ((X (i))) ((Y (i))))) n)) = false) ↔ ((ecB X Y n A m) = true)) ∧ (((n ≤ n) ∧ (∀ e7 : E, ((0 ≤ e7.den ∧ e7.den < n) → ((((X (e7.den))) = ((X (e7.den)))) ∧ (((Y (e7.den))) = ((Y (e7.den)))))))) ∧ ((m ≤ m) ∧ (∀ e6 : E, ((0 ≤ e6.den ∧ e6.den < m) → (((A (e6.den))) = ((A (e6.den))))))))))))) ∧ (((dtB ((fun ι => ((X (((A ((ι))))))))) ((fun ι => ((Y (((A ((ι))))))))) m) = false) → (((ecB X Y n A m) = false) ∧ (((n ≤ n) ∧ (∀ e9 : E, ((0 ≤ e9.den ∧ e9.den < n) → ((((X (e9.den))) = ((X (e9.den)))) ∧ (((Y (e9.den))) = ((Y (e9.den)))))))) ∧ ((m ≤ m) ∧ (∀ e8 : E, ((0 ≤ e8.den ∧ e8.den < m) → (((A (e8.den))) = ((A (e8.den))))))))))))))))) (by kernel_rfl) ?_
  intro h1 h2
  refine ⟨?_, ⟨rfl, rfl⟩, ⟨⟨Int.le_refl _, fun _ => fun _ => ⟨rfl, rfl⟩⟩, ⟨Int.le_refl _, fun _ => fun _ => rfl⟩⟩, rfl, ⟨Int.le_refl _, fun _ => fun _ => ⟨rfl, rfl⟩⟩, ?_, ?_⟩
  · omega
  · intro c12
    refine ⟨?_, rfl, ⟨⟨Int.le_refl _, fun _ => fun _ => ⟨rfl, rfl⟩⟩, ⟨rfl, ⟨Int.le_refl _, fun _ => fun _ => ⟨rfl, rfl⟩⟩⟩⟩, ?_, ⟨Int.le_refl _, fun _ => fun _ => ⟨rfl, rfl⟩⟩, Int.le_refl _, fun _ => fun _ => rfl⟩
    · exact ec_m (by assumption)
    · have hd : dtB (fun i => X (A i)) (fun i => Y (A i)) m = true := (by assumption); have hx := ec_idx (n := n) hd; (simp [← hx]; done)
  · intro c13
    refine ⟨?_, ⟨Int.le_refl _, fun _ => fun _ => ⟨rfl, rfl⟩⟩, Int.le_refl _, fun _ => fun _ => rfl⟩
    exact ec_no (by assumption)
def c_i_enclosing (X : Int → Int) (Y : Int → Int) (n : Int) (A : Int → Int) (m : Int) : CnH Try.prog := ⟨_, _, _, _, _, _, i_enclosing X Y n A m⟩
theorem ck_t {X Y : Int → Int} {n : Int} {A : Int → Int} {m : Int} (h : (ixB A m n && listB X Y n) = true) : ckB X Y n A m = ecB X Y n A m := by
  have := cn_t1 h
  unfold ckB; rw [this.1, this.2]; rfl
theorem ck_f {X Y : Int → Int} {n : Int} {A : Int → Int} {m : Int} (h : (ixB A m n && listB X Y n) = false) : ckB X Y n A m = false := by unfold ckB; cases h1 : listB X Y n <;> cases h2 : ixB A m n <;> simp_all
theorem ck_f2 {X Y : Int → Int} {n : Int} {A : Int → Int} {m : Int} (h : listB X Y n = false) : ckB X Y n A m = false := by unfold ckB; rw [h]; rfl
theorem ck_f4 {X Y : Int → Int} {n : Int} {A : Int → Int} {m : Int} (h : (ixB A m n && dtB (fun i => X (A i)) (fun i => Y (A i)) m) = false) : ckB X Y n A m = false := by
  unfold ckB ecB
  cases h1 : ixB A m n <;> cases h2 : dtB (fun i => X (A i)) (fun i => Y (A i)) m <;> simp_all
theorem ck_t4 {X Y : Int → Int} {n : Int} {A : Int → Int} {m : Int} (hl : listB X Y n = true) (h : (ixB A m n && dtB (fun i => X (A i)) (fun i => Y (A i)) m) = true) : ckB X Y n A m = eaB X Y n A m := by
  rw [Bool.and_eq_true] at h
  unfold ckB ecB; rw [hl, h.1, h.2]; rfl
theorem i_CheckEnclosing (X : Int → Int) (Y : Int → Int) (n : Int) (A : Int → Int) (m : Int) : RunsTo Try.prog 33 [(.sl 0 2 (.lit 0) (.v fun _ => n) 1048576), (.sl 1 1 (.lit 0) (.v fun _ => m) 1048576)] [some ⟨50, 2, true, (.sym (.v fun _ => n) fun e => [(.int .i64 (.v fun _ => (X (e.den))) (-9223372036854775808) 9223372036854775807), (.int .i64 (.v fun _ => (Y (e.den))) (-9223372036854775808) 9223372036854775807)])⟩, some ⟨3, 1, true, (.sym (.v fun _ => m) fun e => [(.int .i64 (.v fun _ => (A (e.den))) (-9223372036854775808) 9223372036854775807)])⟩] (.bool (.v fun _ => ckB X Y n A m)) [some ⟨50, 2, true, (.sym (.v fun _ => n) fun e => [(.int .i64 (.v fun _ => (X (e.den))) (-9223372036854775808) 9223372036854775807), (.int .i64 (.v fun _ => (Y (e.den))) (-9223372036854775808) 9223372036854775807)])⟩, some ⟨3, 1, true, (.sym (.v fun _ => m) fun e => [(.int .i64 (.v fun _ => (A (e.den))) (-9223372036854775808) 9223372036854775807)])⟩] := by
  refine RunsTo.go env Try.func33 rfl Try.call33 rfl rfl (fun _ _ => (.call (c_i_indicesOk X Y n A m) (.ite (.callH (c_i_enclosing X Y n A m) .ret) .ret))) (G := ((0 ≤ n ∧ n ≤ 1048576) ∧ (0 ≤ m ∧ m ≤ 1048576)) → ((∀ e10 : E, ((0 ≤ e10.den ∧ e10.den < n) → (((-9223372036854775808) ≤ ((X (e10.den))) ∧ ((X (e10.den))) ≤ 9223372036854775807) ∧ ((-9223372036854775808) ≤ ((Y (e10.den))) ∧ ((Y (e10.den))) ≤ 9223372036854775807)))) ∧ (∀ e9 : E, ((0 ≤ e9.den ∧ e9.den < m) → ((-9223372036854775808) ≤ ((A (e9.den))) ∧ ((A (e9.den))) ≤ 9223372036854775807)))) → (((n = n) ∧ (m = m)) ∧ ((((n ≤ n) ∧ (∀ e2 : E, ((0 ≤ e2.den ∧ e2.den < n) → ((((X (e2.den))) = ((X (e2.den)))) ∧ (((Y (e2.den))) = ((Y (e2.den)))))))) ∧ ((m ≤ m) ∧ (∀ e1 : E, ((0 ≤ e1.den ∧ e1.den < m) → (((A (e1.den))) = ((A (e1.den)))))))) ∧ ((((ixB A m n && listB X Y n) = true) → ((∀ i, 0 ≤ i → i < m → 0 ≤ A i ∧ A i < n) ∧ (((n = n) ∧ (m = m)) ∧ ((((n ≤ n) ∧ (∀ e4 : E, ((0 ≤ e4.den ∧ e4.den < n) → (((((X (e4.den))) = ((X (e4.den)))) ∧ (((-9223372036854775808) ≤ ((X (e4.den))) ∧ ((X (e4.den))) ≤ 9223372036854775807) → ((-1000) ≤ ((X (e4.den))) ∧ ((X (e4.den))) ≤ 1000))) ∧ ((((Y (e4.den))) = ((Y (e4.den)))) ∧ (((-9223372036854775808) ≤ ((Y (e4.den))) ∧ ((Y (e4.den))) ≤ 9223372036854775807) → ((-1000) ≤ ((Y (e4.den))) ∧ ((Y (e4.den))) ≤ 1000))))))) ∧ ((m ≤ m) ∧ (∀ e3 : E, ((0 ≤ e3.den ∧ e3.den < m) → (((A (e3.den))) = ((A (e3.den)))))))) ∧ ((((ecB X Y n A m) = true) ↔ ((ckB X Y n A m) = true)) ∧ (((n ≤ n) ∧ (∀ e6 : E, ((0 ≤ e6.den ∧ e6.den < n) → ((((X (e6.den))) = ((X (e6.den)))) ∧ (((Y (e6.den))) = ((Y (e6.den)))))))) ∧ ((m ≤ m) ∧ (∀ e5 : E, ((0 ≤ e5.den ∧ e5.den < m) → (((A (e5.den))) = ((A (e5.den))))))))))))) ∧ (((ixB A m n && listB X Y n) = false) → (((ckB X Y n A m) = false) ∧ (((n ≤ n) ∧ (∀ e8 : E, ((0 ≤ e8.den ∧ e8.den < n) → ((((X (e8.den))) = ((X (e8.den)))) ∧ (((Y (e8.den))) = ((Y (e8.den)))))))) ∧ ((m ≤ m) ∧ (∀ e7 : E, ((0 ≤ e7.den ∧ e7.den < m) → (((A (e7.den))) = ((A (e7.den)))))))))))))) (by kernel_rfl) ?_
  intro h1 h2
  refine ⟨⟨rfl, rfl⟩, ⟨⟨Int.le_refl _, fun _ => fun _ => ⟨rfl, rfl⟩⟩, ⟨Int.le_refl _, fun _ => fun _ => rfl⟩⟩, ?_, ?_⟩
  · intro c11
    refine ⟨?_, ⟨rfl, rfl⟩, ?_, ?_, ⟨Int.le_refl _, fun _ => fun _ => ⟨rfl, rfl⟩⟩, Int.le_refl _, fun _ => fun _ => rfl⟩
    · have ht := ck_t (by assumption); (intro i a b; have hq := cn_t1 (by assumption); have hw := ixB_at hq.2 a b; omega)
    · refine ⟨?_, Int.le_refl _, fun _ => fun _ => rfl⟩
      refine ⟨Int.le_refl _, ?_⟩
      intro e4
      intro c12
      refine ⟨?_, rfl, ?_⟩
      · refine ⟨rfl, ?_⟩
        intro c13
        have hl : listB X Y n = true := (by first | assumption | exact (cn_t1 (by assumption)).1 | fail); (have hz := listB_bd hl (i := e4.den) (by omega) (by omega); omega)
      · intro c14
        have hl : listB X Y n = true := (by first | assumption | exact (cn_t1 (by assumption)).1 | fail); (have hz := listB_bd hl (i := e4.den) (by omega) (by omega); omega)
    · have ht := ck_t (by assumption); (rw [ht]; done)
  · intro c15
    refine ⟨?_, ⟨Int.le_refl _, fun _ => fun _ => ⟨rfl, rfl⟩⟩, Int.le_refl _, fun _ => fun _ => rfl⟩
    exact ck_f (by assumption)
def c_i_CheckEnclosing (X : Int → Int) (Y : Int → Int) (n : Int) (A : Int → Int) (m : Int) : Cn Try.prog := ⟨_, _, _, _, _, i_CheckEnclosing X Y n A m⟩
theorem s_inSupport (X : Int → Int) (Y : Int → Int) (n : Int) (A : Int → Int) (m : Int) (qX : Int) (qY : Int) (hp : (∀ i, 0 ≤ i → i < m → 0 ≤ A i ∧ A i < n) ∧ (m = 1 ∨ m = 2 ∨ m = 3)) : RunsTo Try.prog 116 [(.sl 0 2 (.lit 0) (.v fun _ => n) 1048576), (.sl 1 1 (.lit 0) (.v fun _ => m) 1048576), (.agg [(.int .i64 (.v fun _ => qX) (-1000) 1000), (.int .i64 (.v fun _ => qY) (-1000) 1000)])] [some ⟨50, 2, true, (.sym (.v fun _ => n) fun e => [(.int .i64 (.v fun _ => (X (e.den))) (-1000) 1000), (.int .i64 (.v fun _ => (Y (e.den))) (-1000) 1000)])⟩, some ⟨3, 1, true, (.sym (.v fun _ => m) fun e => [(.int .i64 (.v fun _ => (A (e.den))) (-9223372036854775808) 9223372036854775807)])⟩] (.bool (.v fun _ => enB (fun k => (X ((A (k))))) (fun k => (Y ((A (k))))) m qX qY)) [some ⟨50, 2, true, (.sym (.v fun _ => n) fun e => [(.int .i64 (.v fun _ => (X (e.den))) (-1000) 1000), (.int .i64 (.v fun _ => (Y (e.den))) (-1000) 1000)])⟩, some ⟨3, 1, true, (.sym (.v fun _ => m) fun e => [(.int .i64 (.v fun _ => (A (e.den))) (-9223372036854775808) 9223372036854775807)])⟩] := by
  refine RunsTo.go env Try.func116 rfl Try.call116 rfl rfl (fun _ _ => (.need (.need (.need (.need (.ite .ret (.ite (.need (.need (.need (.need (.call (c_s_dot qX qY ((X ((A (0))))) ((Y ((A (0))))) ((X ((A (1))))) ((Y ((A (1)))))) .ret))))) (.need (.need (.need (.need (.need (.need (.need (.need (.call (c_s_inCircle ((X ((A (0))))) ((Y ((A (0))))) ((X ((A (1))))) ((Y ((A (1))))) ((X ((A (2))))) ((Y ((A (2))))) qX qY) (.call (c_s_cross ((X ((A (0))))) ((Y ((A (0))))) ((X ((A (1))))) ((Y ((A (1))))) ((X ((A (2))))) ((Y ((A (2)))))) (.call (c_s_sign (trn ((X ((A (0))))) ((Y ((A (0))))) ((X ((A (1))))) ((Y ((A (1))))) ((X ((A (2))))) ((Y ((A (2))))))) .ret)))))))))))))))))) (G := ((0 ≤ n ∧ n ≤ 1048576) ∧ ((0 ≤ m ∧ m ≤ 1048576) ∧ (((-1000) ≤ qX ∧ qX ≤ 1000) ∧ ((-1000) ≤ qY ∧ qY ≤ 1000)))) → ((∀ e8 : E, ((0 ≤ e8.den ∧ e8.den < n) → (((-1000) ≤ ((X (e8.den))) ∧ ((X (e8.den))) ≤ 1000) ∧ ((-1000) ≤ ((Y (e8.den))) ∧ ((Y (e8.den))) ≤ 1000)))) ∧ (∀ e7 : E, ((0 ≤ e7.den ∧ e7.den < m) → ((-9223372036854775808) ≤ ((A (e7.den))) ∧ ((A (e7.den))) ≤ 9223372036854775807)))) → ((0 < m) ∧ ((0 < m) ∧ ((((0 ≤ ((A (0)))) ∧ (((A (0))) < n))) ∧ ((((A (0))) < n) ∧ (((m = 1) → (((((((X ((A (0))))) = qX) ∧ (((Y ((A (0))))) = qY))) ↔ ((enB (fun k => (X ((A (k))))) (fun k => (Y ((A (k))))) m qX qY) = true)) ∧ (((n ≤ n) ∧ (∀ e2 : E, ((0 ≤ e2.den ∧ e2.den < n) → ((((X (e2.den))) = ((X (e2.den)))) ∧ (((Y (e2.den))) = ((Y (e2.den)))))))) ∧ ((m ≤ m) ∧ (∀ e1 : E, ((0 ≤ e1.den ∧ e1.den < m) → (((A (e1.den))) = ((A (e1.den)))))))))) ∧ ((m ≠ 1) → (((m = 2) → ((1 < m) ∧ ((1 < m) ∧ ((((0 ≤ ((A (1)))) ∧ (((A (1))) < n))) ∧ ((((A (1))) < n) ∧ ((((qX = qX) ∧ (qY = qY)) ∧ (((((X ((A (0))))) = ((X ((A (0)))))) ∧ (((Y ((A (0))))) = ((Y ((A (0))))))) ∧ ((((X ((A (1))))) = ((X ((A (1)))))) ∧ (((Y ((A (1))))) = ((Y ((A (1))))))))) ∧ ((((dt3 qX qY ((X ((A (0))))) ((Y ((A (0))))) ((X ((A (1))))) ((Y ((A (1)))))) ≤ 0) ↔ ((enB (fun k => (X ((A (k))))) (fun k => (Y ((A (k))))) m qX qY) = true)) ∧ (((n ≤ n) ∧ (∀ e4 : E, ((0 ≤ e4.den ∧ e4.den < n) → ((((X (e4.den))) = ((X (e4.den)))) ∧ (((Y (e4.den))) = ((Y (e4.den)))))))) ∧ ((m ≤ m) ∧ (∀ e3 : E, ((0 ≤ e3.den ∧ e3.den < m) → (((A (e3.den))) = ((A (e3.den))))))))))))))) ∧ ((m ≠ 2) → ((1 < m) ∧ ((1 < m) ∧ ((((0 ≤ ((A (1)))) ∧ (((A (1))) < n))) ∧ ((((A (1))) < n) ∧ ((2 < m) ∧ ((2 < m) ∧ ((((0 ≤ ((A (2)))) ∧ (((A (2))) < n))) ∧ ((((A (2))) < n) ∧ ((((((X ((A (0))))) = ((X ((A (0)))))) ∧ (((Y ((A (0))))) = ((Y ((A (0))))))) ∧ (((((X ((A (1))))) = ((X ((A (1)))))) ∧ (((Y ((A (1))))) = ((Y ((A (1))))))) ∧ (((((X ((A (2))))) = ((X ((A (2)))))) ∧ (((Y ((A (2))))) = ((Y ((A (2))))))) ∧ ((qX = qX) ∧ (qY = qY))))) ∧ ((((((X ((A (0))))) = ((X ((A (0)))))) ∧ (((Y ((A (0))))) = ((Y ((A (0))))))) ∧ (((((X ((A (1))))) = ((X ((A (1)))))) ∧ (((Y ((A (1))))) = ((Y ((A (1))))))) ∧ ((((X ((A (2))))) = ((X ((A (2)))))) ∧ (((Y ((A (2))))) = ((Y ((A (2))))))))) ∧ (((trn ((X ((A (0))))) ((Y ((A (0))))) ((X ((A (1))))) ((Y ((A (1))))) ((X ((A (2))))) ((Y ((A (2)))))) = ((trn ((X ((A (0))))) ((Y ((A (0))))) ((X ((A (1))))) ((Y ((A (1))))) ((X ((A (2))))) ((Y ((A (2)))))))) ∧ (((0 ≤ ((sgn (circ ((X ((A (0))))) ((Y ((A (0))))) ((X ((A (1))))) ((Y ((A (1))))) ((X ((A (2))))) ((Y ((A (2))))) qX qY)) * (sgn (trn ((X ((A (0))))) ((Y ((A (0))))) ((X ((A (1))))) ((Y ((A (1))))) ((X ((A (2))))) ((Y ((A (2))))))))) ↔ ((enB (fun k => (X ((A (k))))) (fun k => (Y ((A (k))))) m qX qY) = true)) ∧ (((n ≤ n) ∧ (∀ e6 : E, ((0 ≤ e6.den ∧ e6.den < n) → ((((X (e6.den))) = ((X (e6.den)))) ∧ (((Y (e6.den))) = ((Y (e6.den)))))))) ∧ ((m ≤ m) ∧ (∀ e5 : E, ((0 ≤ e5.den ∧ e5.den < m) → (((A (e5.den))) = ((A (e5.den))))))))))))))))))))))))))))) (by kernel_rfl) ?_
  intro h1 h2
  refine ⟨?_, ?_, ?_, ?_, ?_, ?_⟩
  · omega
  · omega
  · have h0 := hp.1 0 (by omega) (by omega); omega
  · have h0 := hp.1 0 (by omega) (by omega); omega
  · intro c9
    refine ⟨?_, ⟨Int.le_refl _, fun _ => fun _ => ⟨rfl, rfl⟩⟩, Int.le_refl _, fun _ => fun _ => rfl⟩
    rw [en_1 (by assumption)]; (simp; done)
  · intro c10
    refine ⟨?_, ?_⟩
    · intro c11
      refine ⟨?_, ?_, ?_, ?_, ⟨⟨rfl, rfl⟩, ⟨⟨rfl, rfl⟩, ⟨rfl, rfl⟩⟩⟩, ?_, ⟨Int.le_refl _, fun _ => fun _ => ⟨rfl, rfl⟩⟩, Int.le_refl _, fun _ => fun _ => rfl⟩
      · omega
      · omega
      · have h0 := hp.1 0 (by omega) (by omega); have h1 := hp.1 1 (by omega) (by omega); omega
      · have h0 := hp.1 0 (by omega) (by omega); have h1 := hp.1 1 (by omega) (by omega); omega
      · rw [en_2 (by assumption)]; (simp; done)
    · intro c12
      refine ⟨?_, ?_, ?_, ?_, ?_, ?_, ?_, ?_, ⟨⟨rfl, rfl⟩, ⟨⟨rfl, rfl⟩, ⟨⟨rfl, rfl⟩, ⟨rfl, rfl⟩⟩⟩⟩, ⟨⟨rfl, rfl⟩, ⟨⟨rfl, rfl⟩, ⟨rfl, rfl⟩⟩⟩, rfl, ?_, ⟨Int.le_refl _, fun _ => fun _ => ⟨rfl, rfl⟩⟩, Int.le_refl _, fun _ => fun _ => rfl⟩
      · omega
      · omega
      · have h0 := hp.1 0 (by omega) (by omega); have h1 := hp.1 1 (by omega) (by omega); omega
      · have h0 := hp.1 0 (by omega) (by omega); have h1 := hp.1 1 (by omega) (by omega); omega
      · omega
      · omega
      · have h0 := hp.1 0 (by omega) (by omega); have h1 := hp.1 1 (by omega) (by omega); (have h2 := hp.1 2 (by omega) (by omega); omega)
      · have h0 := hp.1 0 (by omega) (by omega); have h1 := hp.1 1 (by omega) (by omega); (have h2 := hp.1 2 (by omega) (by omega); omega)
      · rw [en_3 (by assumption) (by assumption)]; (rw [decide_eq_true_eq]; done)
def c_s_inSupport (X : Int → Int) (Y : Int → Int) (n : Int) (A : Int → Int) (m : Int) (qX : Int) (qY : Int) : CnH Try.prog := ⟨_, _, _, _, _, _, s_inSupport X Y n A m qX qY⟩
theorem s_encloses (X : Int → Int) (Y : Int → Int) (n : Int) (A : Int → Int) (m : Int) (hp : (∀ i, 0 ≤ i → i < m → 0 ≤ A i ∧ A i < n) ∧ (m = 1 ∨ m = 2 ∨ m = 3)) : RunsTo Try.prog 69 [(.sl 0 2 (.lit 0) (.v fun _ => n) 1048576), (.sl 1 1 (.lit 0) (.v fun _ => m) 1048576)] [some ⟨50, 2, true, (.sym (.v fun _ => n) fun e => [(.int .i64 (.v fun _ => (X (e.den))) (-1000) 1000), (.int .i64 (.v fun _ => (Y (e.den))) (-1000) 1000)])⟩, some ⟨3, 1, true, (.sym (.v fun _ => m) fun e => [(.int .i64 (.v fun _ => (A (e.den))) (-9223372036854775808) 9223372036854775807)])⟩] (.bool (.v fun _ => eaB X Y n A m)) [some ⟨50, 2, true, (.sym (.v fun _ => n) fun e => [(.int .i64 (.v fun _ => (X (e.den))) (-1000) 1000), (.int .i64 (.v fun _ => (Y (e.den))) (-1000) 1000)])⟩, some ⟨3, 1, true, (.sym (.v fun _ => m) fun e => [(.int .i64 (.v fun _ => (A (e.den))) (-9223372036854775808) 9223372036854775807)])⟩] := by
  refine RunsTo.go env Try.func69 rfl Try.call69 rfl rfl (fun _ _ => (.loop [] [0, 1] (Int) (fun x1 => ⟨spl 20 0 [(0, (.sl 0 2 (.lit 0) (.v fun _ => n) 1048576)), (1, (.sl 1 1 (.lit 0) (.v fun _ => m) 1048576)), (5, (.int .i64 (.v fun _ => x1) 0 1048576))], [some ⟨50, 2, true, (.sym (.v fun _ => n) fun e => [(.int .i64 (.v fun _ => (X (e.den))) (-1000) 1000), (.int .i64 (.v fun _ => (Y (e.den))) (-1000) 1000)])⟩, some ⟨3, 1, true, (.sym (.v fun _ => m) fun e => [(.int .i64 (.v fun _ => (A (e.den))) (-9223372036854775808) 9223372036854775807)])⟩], 2⟩) (fun x1 => (0 ≤ x1 ∧ x1 ≤ n) ∧ ∀ i, 0 ≤ i → i < x1 → enB (fun k => (X ((A (k))))) (fun k => (Y ((A (k))))) m (X (i)) (Y (i)) = true) (fun x1 => (n - x1).toNat) fun x1 => (.ite (.need (.need (.callH (c_s_inSupport X Y n A m ((X (x1))) ((Y (x1)))) (.ite (.out .ret) (.next [0, 1]))))) (.out .ret)))) (G := ((0 ≤ n ∧ n ≤ 1048576) ∧ (0 ≤ m ∧ m ≤ 1048576)) → ((∀ e15 : E, ((0 ≤ e15.den ∧ e15.den < n) → (((-1000) ≤ ((X (e15.den))) ∧ ((X (e15.den))) ≤ 1000) ∧ ((-1000) ≤ ((Y (e15.den))) ∧ ((Y (e15.den))) ≤ 1000)))) ∧ (∀ e14 : E, ((0 ≤ e14.den ∧ e14.den < m) → ((-9223372036854775808) ≤ ((A (e14.den))) ∧ ((A (e14.den))) ≤ 9223372036854775807)))) → ((∃ y2 : Int, (((0 ≤ y2 ∧ y2 ≤ n) ∧ ∀ i, 0 ≤ i → i < y2 → enB (fun k => (X ((A (k))))) (fun k => (Y ((A (k))))) m (X (i)) (Y (i)) = true) ∧ (((n = n) ∧ ((m = m) ∧ ((0 : Int) = y2))) ∧ (((n ≤ n) ∧ (∀ e4 : E, ((0 ≤ e4.den ∧ e4.den < n) → ((((X (e4.den))) = ((X (e4.den)))) ∧ (((Y (e4.den))) = ((Y (e4.den)))))))) ∧ ((m ≤ m) ∧ (∀ e3 : E, ((0 ≤ e3.den ∧ e3.den < m) → (((A (e3.den))) = ((A (e3.den))))))))))) ∧ (∀ x1 : Int, (((0 ≤ x1 ∧ x1 ≤ n) ∧ ∀ i, 0 ≤ i → i < x1 → enB (fun k => (X ((A (k))))) (fun k => (Y ((A (k))))) m (X (i)) (Y (i)) = true) → (((x1 < n) → ((((0 ≤ x1) ∧ (x1 < n))) ∧ ((x1 < n) ∧ (((∀ i, 0 ≤ i → i < m → 0 ≤ A i ∧ A i < n) ∧ (m = 1 ∨ m = 2 ∨ m = 3)) ∧ (((n = n) ∧ ((m = m) ∧ ((((X (x1))) = ((X (x1)))) ∧ (((Y (x1))) = ((Y (x1))))))) ∧ ((((n ≤ n) ∧ (∀ e6 : E, ((0 ≤ e6.den ∧ e6.den < n) → ((((X (e6.den))) = ((X (e6.den)))) ∧ (((Y (e6.den))) = ((Y (e6.den)))))))) ∧ ((m ≤ m) ∧ (∀ e5 : E, ((0 ≤ e5.den ∧ e5.den < m) → (((A (e5.den))) = ((A (e5.den)))))))) ∧ ((((enB (fun k => ((X (((A (k))))))) (fun k => ((Y (((A (k))))))) m ((X (x1))) ((Y (x1)))) = false) → (((eaB X Y n A m) = false) ∧ (((n ≤ n) ∧ (∀ e8 : E, ((0 ≤ e8.den ∧ e8.den < n) → ((((X (e8.den))) = ((X (e8.den)))) ∧ (((Y (e8.den))) = ((Y (e8.den)))))))) ∧ ((m ≤ m) ∧ (∀ e7 : E, ((0 ≤ e7.den ∧ e7.den < m) → (((A (e7.den))) = ((A (e7.den)))))))))) ∧ (((enB (fun k => ((X (((A (k))))))) (fun k => ((Y (((A (k))))))) m ((X (x1))) ((Y (x1)))) = true) → (∃ y9 : Int, (((0 ≤ y9 ∧ y9 ≤ n) ∧ ∀ i, 0 ≤ i → i < y9 → enB (fun k => (X ((A (k))))) (fun k => (Y ((A (k))))) m (X (i)) (Y (i)) = true) ∧ ((((n = n) ∧ ((m = m) ∧ (((x1 + 1) = y9) ∧ ((1 ≤ (x1 + 1) ∧ (x1 + 1) ≤ 1048577) → (0 ≤ y9 ∧ y9 ≤ 1048576))))) ∧ (((n ≤ n) ∧ (∀ e11 : E, ((0 ≤ e11.den ∧ e11.den < n) → ((((X (e11.den))) = ((X (e11.den)))) ∧ (((Y (e11.den))) = ((Y (e11.den)))))))) ∧ ((m ≤ m) ∧ (∀ e10 : E, ((0 ≤ e10.den ∧ e10.den < m) → (((A (e10.den))) = ((A (e10.den))))))))) ∧ ((n - y9).toNat < (n - x1).toNat)))))))))))) ∧ ((n ≤ x1) → (((eaB X Y n A m) = true) ∧ (((n ≤ n) ∧ (∀ e13 : E, ((0 ≤ e13.den ∧ e13.den < n) → ((((X (e13.den))) = ((X (e13.den)))) ∧ (((Y (e13.den))) = ((Y (e13.den)))))))) ∧ ((m ≤ m) ∧ (∀ e12 : E, ((0 ≤ e12.den ∧ e12.den < m) → (((A (e12.den))) = ((A (e12.den))))))))))))))) (by kernel_rfl) ?_
  intro h1 h2
  refine ⟨?_, ?_⟩
  · refine ⟨0, ?_⟩
    try dsimp only
    refine ⟨?_, ?_, ⟨Int.le_refl _, fun _ => fun _ => ⟨rfl, rfl⟩⟩, Int.le_refl _, fun _ => fun _ => rfl⟩
    · refine ⟨by omega, fun i a b => ?_⟩; (exfalso; omega)
    · refine ⟨rfl, rfl, ?_⟩
      rfl
  · intro j
    intro I1
    refine ⟨?_, ?_⟩
    · intro c16
      refine ⟨?_, ?_, ?_, ⟨rfl, ⟨rfl, ⟨rfl, rfl⟩⟩⟩, ⟨⟨Int.le_refl _, fun _ => fun _ => ⟨rfl, rfl⟩⟩, ⟨Int.le_refl _, fun _ => fun _ => rfl⟩⟩, ?_, ?_⟩
      · omega
      · omega
      · omega
      · intro c17
        refine ⟨?_, ⟨Int.le_refl _, fun _ => fun _ => ⟨rfl, rfl⟩⟩, Int.le_refl _, fun _ => fun _ => rfl⟩
        unfold eaB; exact allB_false I1.1.1 (by omega) (by assumption)
      · intro c18
        refine ⟨j + 1, ?_⟩
        try dsimp only
        refine ⟨?_, ?_, ?_⟩
        · refine ⟨by omega, fun i a b => ?_⟩; (by_cases e : i = j; (subst e; assumption); exact I1.2 i a (by omega))
        · refine ⟨?_, ⟨Int.le_refl _, fun _ => fun _ => ⟨rfl, rfl⟩⟩, Int.le_refl _, fun _ => fun _ => rfl⟩
          refine ⟨rfl, rfl, ?_, ?_⟩
          · rfl
          · intro c19
            omega
        · omega
    · intro c20
      refine ⟨?_, ⟨Int.le_refl _, fun _ => fun _ => ⟨rfl, rfl⟩⟩, Int.le_refl _, fun _ => fun _ => rfl⟩
      unfold eaB; exact allB_iff.2 fun i a b => I1.2 i a (by omega)
def c_s_encloses (X : Int → Int) (Y : Int → Int) (n : Int) (A : Int → Int) (m : Int) : CnH Try.prog := ⟨_, _, _, _, _, _, s_encloses X Y n A m⟩
theorem s_CheckEnclosing (X : Int → Int) (Y : Int → Int) (n : Int) (A : Int → Int) (m : Int) : RunsTo Try.prog 34 [(.sl 0 2 (.lit 0) (.v fun _ => n) 1048576), (.sl 1 1 (.lit 0) (.v fun _ => m) 1048576)] [some ⟨50, 2, true, (.sym (.v fun _ => n) fun e => [(.int .i64 (.v fun _ => (X (e.den))) (-9223372036854775808) 9223372036854775807), (.int .i64 (.v fun _ => (Y (e.den))) (-9223372036854775808) 9223372036854775807)])⟩, some ⟨3, 1, true, (.sym (.v fun _ => m) fun e => [(.int .i64 (.v fun _ => (A (e.den))) (-9223372036854775808) 9223372036854775807)])⟩] (.bool (.v fun _ => ckB X Y n A m)) [some ⟨50, 2, true, (.sym (.v fun _ => n) fun e => [(.int .i64 (.v fun _ => (X (e.den))) (-9223372036854775808) 9223372036854775807), (.int .i64 (.v fun _ => (Y (e.den))) (-9223372036854775808) 9223372036854775807)])⟩, some ⟨3, 1, true, (.sym (.v fun _ => m) fun e => [(.int .i64 (.v fun _ => (A (e.den))) (-9223372036854775808) 9223372036854775807)])⟩] := by
  refine RunsTo.go env Try.func34 rfl Try.call34 rfl rfl (fun _ _ => (.call (c_s_validPoints X Y n) (.ite (.call (c_s_isSupport X Y n A m) (.ite (.callH (c_s_encloses X Y n A m) .ret) .ret)) .ret))) (G := ((0 ≤ n ∧ n ≤ 1048576) ∧ (0 ≤ m ∧ m ≤ 1048576)) → ((∀ e13 : E, ((0 ≤ e13.den ∧ e13.den < n) → (((-9223372036854775808) ≤ ((X (e13.den))) ∧ ((X (e13.den))) ≤ 9223372036854775807) ∧ ((-9223372036854775808) ≤ ((Y (e13.den))) ∧ ((Y (e13.den))) ≤ 9223372036854775807)))) ∧ (∀ e12 : E, ((0 ≤ e12.den ∧ e12.den < m) → ((-9223372036854775808) ≤ ((A (e12.den))) ∧ ((A (e12.den))) ≤ 9223372036854775807)))) → ((n = n) ∧ (((n ≤ n) ∧ (∀ e1 : E, ((0 ≤ e1.den ∧ e1.den < n) → ((((X (e1.den))) = ((X (e1.den)))) ∧ (((Y (e1.den))) = ((Y (e1.den)))))))) ∧ ((((listB X Y n) = true) → (((n = n) ∧ (m = m)) ∧ ((((n ≤ n) ∧ (∀ e3 : E, ((0 ≤ e3.den ∧ e3.den < n) → (((((X (e3.den))) = ((X (e3.den)))) ∧ (((-9223372036854775808) ≤ ((X (e3.den))) ∧ ((X (e3.den))) ≤ 9223372036854775807) → ((-1000) ≤ ((X (e3.den))) ∧ ((X (e3.den))) ≤ 1000))) ∧ ((((Y (e3.den))) = ((Y (e3.den)))) ∧ (((-9223372036854775808) ≤ ((Y (e3.den))) ∧ ((Y (e3.den))) ≤ 9223372036854775807) → ((-1000) ≤ ((Y (e3.den))) ∧ ((Y (e3.den))) ≤ 1000))))))) ∧ ((m ≤ m) ∧ (∀ e2 : E, ((0 ≤ e2.den ∧ e2.den < m) → (((A (e2.den))) = ((A (e2.den)))))))) ∧ ((((ixB A m n && dtB (fun i => ((X (((A (i))))))) (fun i => ((Y (((A (i))))))) m) = true) → (((∀ i, 0 ≤ i → i < m → 0 ≤ A i ∧ A i < n) ∧ (m = 1 ∨ m = 2 ∨ m = 3)) ∧ (((n = n) ∧ (m = m)) ∧ ((((n ≤ n) ∧ (∀ e5 : E, ((0 ≤ e5.den ∧ e5.den < n) → ((((X (e5.den))) = ((X (e5.den)))) ∧ (((Y (e5.den))) = ((Y (e5.den)))))))) ∧ ((m ≤ m) ∧ (∀ e4 : E, ((0 ≤ e4.den ∧ e4.den < m) → (((A (e4.den))) = ((A (e4.den)))))))) ∧ ((((eaB X Y n A m) = true) ↔ ((ckB X Y n A m) = true)) ∧ (((n ≤ n) ∧ (∀ e7 : E, ((0 ≤ e7.den ∧ e7.den < n) → ((((X (e7.den))) = ((X (e7.den)))) ∧ (((Y (e7.den))) = ((Y (e7.den)))))))) ∧ ((m ≤ m) ∧ (∀ e6 : E, ((0 ≤ e6.den ∧ e6.den < m) → (((A (e6.den))) = ((A (e6.den))))))))))))) ∧ (((ixB A m n && dtB (fun i => ((X (((A (i))))))) (fun i => ((Y (((A (i))))))) m) = false) → (((ckB X Y n A m) = false) ∧ (((n ≤ n) ∧ (∀ e9 : E, ((0 ≤ e9.den ∧ e9.den < n) → ((((X (e9.den))) = ((X (e9.den)))) ∧ (((Y (e9.den))) = ((Y (e9.den)))))))) ∧ ((m ≤ m) ∧ (∀ e8 : E, ((0 ≤ e8.den ∧ e8.den < m) → (((A (e8.den))) = ((A (e8.den)))))))))))))) ∧ (((listB X Y n) = false) → (((ckB X Y n A m) = false) ∧ (((n ≤ n) ∧ (∀ e11 : E, ((0 ≤ e11.den ∧ e11.den < n) → ((((X (e11.den))) = ((X (e11.den)))) ∧ (((Y (e11.den))) = ((Y (e11.den)))))))) ∧ ((m ≤ m) ∧ (∀ e10 : E, ((0 ≤ e10.den ∧ e10.den < m) → (((A (e10.den))) = ((A (e10.den)))))))))))))) (by kernel_rfl) ?_
  intro h1 h2
  refine ⟨rfl, ⟨Int.le_refl _, fun _ => fun _ => ⟨rfl, rfl⟩⟩, ?_, ?_⟩
  · intro c14
    refine ⟨⟨rfl, rfl⟩, ?_, ?_, ?_⟩
    · refine ⟨?_, Int.le_refl _, fun _ => fun _ => rfl⟩
      refine ⟨Int.le_refl _, ?_⟩
      intro e3
      intro c15
      refine ⟨?_, rfl, ?_⟩
      · refine ⟨rfl, ?_⟩
        intro c16
        have hl : listB X Y n = true := (by first | assumption | exact (cn_t1 (by assumption)).1 | fail); (have hz := listB_bd hl (i := e3.den) (by omega) (by omega); omega)
      · intro c17
        have hl : listB X Y n = true := (by first | assumption | exact (cn_t1 (by assumption)).1 | fail); (have hz := listB_bd hl (i := e3.den) (by omega) (by omega); omega)
    · intro c18
      refine ⟨?_, ⟨rfl, rfl⟩, ⟨⟨Int.le_refl _, fun _ => fun _ => ⟨rfl, rfl⟩⟩, ⟨Int.le_refl _, fun _ => fun _ => rfl⟩⟩, ?_, ⟨Int.le_refl _, fun _ => fun _ => ⟨rfl, rfl⟩⟩, Int.le_refl _, fun _ => fun _ => rfl⟩
      · have hl : listB X Y n = true := (by assumption); have h4 := cn_t4 (n := n) (X := X) (Y := Y) (by assumption); refine ⟨?_, ?_⟩; (intro i a b; exact ixB_at h4.1 a b); exact ec_m h4.2
      · have hl : listB X Y n = true := (by first | assumption | exact (cn_t1 (by assumption)).1 | fail); (rw [ck_t4 hl (by assumption)]; done)
    · intro c19
      refine ⟨?_, ⟨Int.le_refl _, fun _ => fun _ => ⟨rfl, rfl⟩⟩, Int.le_refl _, fun _ => fun _ => rfl⟩
      exact ck_f4 (by assumption)
  · intro c20
    refine ⟨?_, ⟨Int.le_refl _, fun _ => fun _ => ⟨rfl, rfl⟩⟩, Int.le_refl _, fun _ => fun _ => rfl⟩
    exact ck_f2 (by assumption)
def c_s_CheckEnclosing (X : Int → Int) (Y : Int → Int) (n : Int) (A : Int → Int) (m : Int) : Cn Try.prog := ⟨_, _, _, _, _, s_CheckEnclosing X Y n A m⟩
end Go.Proofs.Ytcfkpdjbjfnnmaa
