/- Lists of points: valid, nearest. -/
import Derived.Test.YtefikodgmhlfnaaR2
set_option linter.unusedSimpArgs false
set_option linter.unusedVariables false
set_option maxRecDepth 100000
namespace Go.Proofs.Ytefikodgmhlfnaa
open Go.Sym
/-- All of the first n. -/
def allB (q : Int → Bool) (n : Int) : Bool := (List.range n.toNat).all fun i => q i
theorem allB_iff {q : Int → Bool} {n : Int} : allB q n = true ↔ ∀ i, 0 ≤ i → i < n → q i = true := by
  unfold allB
  rw [List.all_eq_true]
  constructor
  · intro h i h0 h1
    have := h i.toNat (List.mem_range.2 (by omega))
    rwa [Int.toNat_of_nonneg h0] at this
  · intro h x hx
    have := List.mem_range.1 hx
    exact h x (by omega) (by omega)
theorem allB_false {q : Int → Bool} {n j : Int} (h0 : 0 ≤ j) (h1 : j < n) (h : q j = false) : allB q n = false := by
  cases hc : allB q n with
  | false => rfl
  | true => rw [allB_iff.1 hc j h0 h1] at h; cases h
/-- The first of n that is so, or -1. -/
def fidx (q : Int → Bool) (n : Int) : Int := match (List.range n.toNat).find? fun (i : Nat) => q i with
  | some i => i
  | none => -1
theorem fidx_none {q : Int → Bool} {n : Int} (h : ∀ i, 0 ≤ i → i < n → q i = false) : fidx q n = -1 := by
  unfold fidx
  split
  · rename_i i hi
    have h1 := List.find?_some hi
    have h2 := List.mem_range.1 (List.mem_of_find?_eq_some hi)
    rw [h i (by omega) (by omega)] at h1; cases h1
  · rfl
theorem fidx_found {q : Int → Bool} {n j : Int} (h0 : 0 ≤ j) (h1 : j < n) (hj : q j = true) (h : ∀ i, 0 ≤ i → i < j → q i = false) : fidx q n = j := by
  unfold fidx
  have e : (List.range n.toNat).find? (fun (i : Nat) => q i) = some j.toNat := by
    rw [List.find?_range_eq_some]
    refine ⟨by rw [Int.toNat_of_nonneg h0]; exact hj, List.mem_range.2 (by omega), fun i hi => ?_⟩
    rw [h i (by omega) (by omega)]; rfl
  rw [e]
  exact Int.toNat_of_nonneg h0
theorem fidx_bd (q : Int → Bool) {n : Int} (hn : 0 ≤ n) : -1 ≤ fidx q n ∧ fidx q n < n ∨ fidx q n = -1 := by
  unfold fidx
  split
  · rename_i i hi
    have h2 := List.mem_range.1 (List.mem_of_find?_eq_some hi)
    exact .inl ⟨by omega, by omega⟩
  · exact .inr rfl
theorem fidx_neg {q : Int → Bool} {n : Int} : fidx (fun i => !(q i)) n < 0 ↔ allB q n = true := by
  constructor
  · intro h
    rw [allB_iff]
    intro i h0 h1
    cases hq : q i with
    | true => rfl
    | false =>
      exfalso
      unfold fidx at h
      split at h
      · omega
      · rename_i hn
        rw [List.find?_eq_none] at hn
        have := hn i.toNat (List.mem_range.2 (by omega))
        rw [Int.toNat_of_nonneg h0] at this
        simp [hq] at this
  · intro h
    rw [fidx_none fun i h0 h1 => by rw [allB_iff.1 h i h0 h1]; rfl]
    decide
def listB (X Y : Int → Int) (n : Int) : Bool := decide (n ≤ 20) && allB (fun i => okP (X i) (Y i)) n
/-- The first with the smallest. -/
def near (D : Int → Int) : Nat → Int
  | 0 => 0
  | k + 1 => if D k < D (near D k) then k else near D k
theorem near_bd (D : Int → Int) : ∀ k : Nat, 0 ≤ near D k ∧ (near D k < k ∨ near D k = 0)
  | 0 => ⟨by simp [near], .inr rfl⟩
  | k + 1 => by
    have := near_bd D k
    rw [near]
    split <;> omega
theorem near_succ (D : Int → Int) (j : Int) (h : 0 ≤ j) : near D (j + 1).toNat = if D j < D (near D j.toNat) then j else near D j.toNat := by
  obtain ⟨k, rfl⟩ := Int.eq_ofNat_of_zero_le h
  rfl
theorem listB_ok {X Y : Int → Int} {n : Int} (h : listB X Y n = true) {i : Int} (h0 : 0 ≤ i) (h1 : i < n) : okP (X i) (Y i) = true := by
  simp only [listB, Bool.and_eq_true] at h
  exact allB_iff.1 h.2 i h0 h1
theorem listB_bd {X Y : Int → Int} {n : Int} (h : listB X Y n = true) {i : Int} (h0 : 0 ≤ i) (h1 : i < n) : -1000 ≤ X i ∧ X i ≤ 1000 ∧ -1000 ≤ Y i ∧ Y i ≤ 1000 := okP_iff.1 (listB_ok h h0 h1)
theorem listB_n {X Y : Int → Int} {n : Int} (h : listB X Y n = true) : n ≤ 20 := by
  simp only [listB, Bool.and_eq_true, decide_eq_true_eq] at h
  exact h.1
def nearTo (X Y : Int → Int) (n qX qY : Int) : Int := if listB X Y n && !(decide (n = 0)) && okP qX qY then near (fun i => dst (X i) (Y i) qX qY) n.toNat else -1
theorem i_allValid1 (pX : Int) (pY : Int) : RunsTo Try.prog 19 [(.agg [(.int .i64 (.v fun _ => pX) (-9223372036854775808) 9223372036854775807), (.int .i64 (.v fun _ => pY) (-9223372036854775808) 9223372036854775807)])] [] (.bool (.v fun _ => !(okP pX pY))) [] := by
  refine RunsTo.go env Try.func19 rfl Try.call19 rfl rfl (fun _ _ => (.call (c_i_valid pX pY) .ret)) (G := (((-9223372036854775808) ≤ pX ∧ pX ≤ 9223372036854775807) ∧ ((-9223372036854775808) ≤ pY ∧ pY ≤ 9223372036854775807)) → (True) → (((pX = pX) ∧ (pY = pY)) ∧ (((okP pX pY) = false) ↔ ((!(okP pX pY)) = true)))) (by kernel_rfl) ?_
  intro h1 h2
  refine ⟨⟨rfl, rfl⟩, ?_⟩
  -- 1: ((okP pX pY) = false) ↔ ((!(okP pX pY)) = true)
  simp
def c_i_allValid1 (pX : Int) (pY : Int) : Cn Try.prog := ⟨_, _, _, _, _, i_allValid1 pX pY⟩
theorem IndexFunc_p1 (X : Int → Int) (Y : Int → Int) (n : Int) : RunsTo Try.prog 28 [(.sl 0 2 (.lit 0) (.v fun _ => n) 1048576), (.fn 19 [])] [some ⟨24, 2, true, (.sym (.v fun _ => n) fun e => [(.int .i64 (.v fun _ => (X (e.den))) (-9223372036854775808) 9223372036854775807), (.int .i64 (.v fun _ => (Y (e.den))) (-9223372036854775808) 9223372036854775807)])⟩] (.int .i64 (.v fun _ => fidx (fun i => !(okP (X (i)) (Y (i)))) n) (-1) 1048576) [some ⟨24, 2, true, (.sym (.v fun _ => n) fun e => [(.int .i64 (.v fun _ => (X (e.den))) (-9223372036854775808) 9223372036854775807), (.int .i64 (.v fun _ => (Y (e.den))) (-9223372036854775808) 9223372036854775807)])⟩] := by
  refine RunsTo.go env Try.func28 rfl Try.call28 rfl rfl (fun _ _ => (.loop [] [0] (Int) (fun x1 => ⟨spl 19 0 [(0, (.sl 0 2 (.lit 0) (.v fun _ => n) 1048576)), (1, (.fn 19 [])), (7, (.int .i64 (.v fun _ => n) 0 1048576)), (8, (.int .i64 (.v fun _ => x1) 0 1048576))], [some ⟨24, 2, true, (.sym (.v fun _ => n) fun e => [(.int .i64 (.v fun _ => (X (e.den))) (-9223372036854775808) 9223372036854775807), (.int .i64 (.v fun _ => (Y (e.den))) (-9223372036854775808) 9223372036854775807)])⟩], 1⟩) (fun x1 => (0 ≤ x1 ∧ x1 ≤ n) ∧ ∀ i, 0 ≤ i → i < x1 → (!(okP (X (i)) (Y (i)))) = false) (fun x1 => (n - x1).toNat) fun x1 => (.ite (.need (.need (.call (c_i_allValid1 ((X (x1))) ((Y (x1)))) (.ite (.out .ret) (.next [0]))))) (.out .ret)))) (G := (0 ≤ n ∧ n ≤ 1048576) → (∀ e8 : E, ((0 ≤ e8.den ∧ e8.den < n) → (((-9223372036854775808) ≤ ((X (e8.den))) ∧ ((X (e8.den))) ≤ 9223372036854775807) ∧ ((-9223372036854775808) ≤ ((Y (e8.den))) ∧ ((Y (e8.den))) ≤ 9223372036854775807)))) → ((∃ y2 : Int, (((0 ≤ y2 ∧ y2 ≤ n) ∧ ∀ i, 0 ≤ i → i < y2 → (!(okP (X (i)) (Y (i)))) = false) ∧ (((n = n) ∧ ((n = n) ∧ ((0 : Int) = y2))) ∧ ((n ≤ n) ∧ (∀ e3 : E, ((0 ≤ e3.den ∧ e3.den < n) → ((((X (e3.den))) = ((X (e3.den)))) ∧ (((Y (e3.den))) = ((Y (e3.den))))))))))) ∧ (∀ x1 : Int, (((0 ≤ x1 ∧ x1 ≤ n) ∧ ∀ i, 0 ≤ i → i < x1 → (!(okP (X (i)) (Y (i)))) = false) → (((x1 < n) → ((((0 ≤ x1) ∧ (x1 < n))) ∧ ((x1 < n) ∧ (((((X (x1))) = ((X (x1)))) ∧ (((Y (x1))) = ((Y (x1))))) ∧ ((((!(okP ((X (x1))) ((Y (x1))))) = true) → ((x1 = (fidx (fun i => !(okP (X (i)) (Y (i)))) n)) ∧ ((n ≤ n) ∧ (∀ e4 : E, ((0 ≤ e4.den ∧ e4.den < n) → ((((X (e4.den))) = ((X (e4.den)))) ∧ (((Y (e4.den))) = ((Y (e4.den)))))))))) ∧ (((!(okP ((X (x1))) ((Y (x1))))) = false) → (∃ y5 : Int, (((0 ≤ y5 ∧ y5 ≤ n) ∧ ∀ i, 0 ≤ i → i < y5 → (!(okP (X (i)) (Y (i)))) = false) ∧ ((((n = n) ∧ ((n = n) ∧ (((x1 + 1) = y5) ∧ ((1 ≤ (x1 + 1) ∧ (x1 + 1) ≤ 1048577) → (0 ≤ y5 ∧ y5 ≤ 1048576))))) ∧ ((n ≤ n) ∧ (∀ e6 : E, ((0 ≤ e6.den ∧ e6.den < n) → ((((X (e6.den))) = ((X (e6.den)))) ∧ (((Y (e6.den))) = ((Y (e6.den))))))))) ∧ ((n - y5).toNat < (n - x1).toNat)))))))))) ∧ ((n ≤ x1) → ((((-1) : Int) = (fidx (fun i => !(okP (X (i)) (Y (i)))) n)) ∧ ((n ≤ n) ∧ (∀ e7 : E, ((0 ≤ e7.den ∧ e7.den < n) → ((((X (e7.den))) = ((X (e7.den)))) ∧ (((Y (e7.den))) = ((Y (e7.den))))))))))))))) (by kernel_rfl) ?_
  intro h1 h2
  have hn := h1.1
  have hb := fidx_bd (fun i => !(okP (X i) (Y i))) h1.1
  refine ⟨?_, ?_⟩
  · refine ⟨0, ?_⟩
    try dsimp only
    refine ⟨?_, ?_, Int.le_refl _, fun _ => fun _ => ⟨rfl, rfl⟩⟩
    · exact ⟨by omega, fun i a b => by omega⟩
    · refine ⟨rfl, rfl, ?_⟩
      rfl
  · intro j
    intro I1
    refine ⟨?_, ?_⟩
    · intro c9
      refine ⟨?_, ?_, ⟨rfl, rfl⟩, ?_, ?_⟩
      · omega
      · omega
      · intro c10
        refine ⟨?_, Int.le_refl _, fun _ => fun _ => ⟨rfl, rfl⟩⟩
        exact (fidx_found I1.1.1 (by omega) (by assumption) I1.2).symm
      · intro c11
        refine ⟨j + 1, ?_⟩
        try dsimp only
        refine ⟨?_, ?_, ?_⟩
        · refine ⟨by omega, fun i a b => ?_⟩; by_cases e : i = j; (subst e; assumption); exact I1.2 i a (by omega)
        · refine ⟨?_, Int.le_refl _, fun _ => fun _ => ⟨rfl, rfl⟩⟩
          refine ⟨rfl, rfl, ?_, ?_⟩
          · rfl
          · intro c12
            omega
        · omega
    · intro c13
      refine ⟨?_, Int.le_refl _, fun _ => fun _ => ⟨rfl, rfl⟩⟩
      exact (fidx_none fun i a b => I1.2 i a (by omega)).symm
def c_IndexFunc_p1 (X : Int → Int) (Y : Int → Int) (n : Int) : Cn Try.prog := ⟨_, _, _, _, _, IndexFunc_p1 X Y n⟩
theorem ContainsFunc_p1 (X : Int → Int) (Y : Int → Int) (n : Int) : RunsTo Try.prog 18 [(.sl 0 2 (.lit 0) (.v fun _ => n) 1048576), (.fn 19 [])] [some ⟨24, 2, true, (.sym (.v fun _ => n) fun e => [(.int .i64 (.v fun _ => (X (e.den))) (-9223372036854775808) 9223372036854775807), (.int .i64 (.v fun _ => (Y (e.den))) (-9223372036854775808) 9223372036854775807)])⟩] (.bool (.v fun _ => decide (0 ≤ fidx (fun i => !(okP (X (i)) (Y (i)))) n))) [some ⟨24, 2, true, (.sym (.v fun _ => n) fun e => [(.int .i64 (.v fun _ => (X (e.den))) (-9223372036854775808) 9223372036854775807), (.int .i64 (.v fun _ => (Y (e.den))) (-9223372036854775808) 9223372036854775807)])⟩] := by
  refine RunsTo.go env Try.func18 rfl Try.call18 rfl rfl (fun _ _ => (.call (c_IndexFunc_p1 X Y n) .ret)) (G := (0 ≤ n ∧ n ≤ 1048576) → (∀ e3 : E, ((0 ≤ e3.den ∧ e3.den < n) → (((-9223372036854775808) ≤ ((X (e3.den))) ∧ ((X (e3.den))) ≤ 9223372036854775807) ∧ ((-9223372036854775808) ≤ ((Y (e3.den))) ∧ ((Y (e3.den))) ≤ 9223372036854775807)))) → ((n = n) ∧ (((n ≤ n) ∧ (∀ e1 : E, ((0 ≤ e1.den ∧ e1.den < n) → ((((X (e1.den))) = ((X (e1.den)))) ∧ (((Y (e1.den))) = ((Y (e1.den)))))))) ∧ (((0 ≤ (fidx (fun i => !(okP ((X (i))) ((Y (i))))) n)) ↔ ((decide (0 ≤ fidx (fun i => !(okP (X (i)) (Y (i)))) n)) = true)) ∧ ((n ≤ n) ∧ (∀ e2 : E, ((0 ≤ e2.den ∧ e2.den < n) → ((((X (e2.den))) = ((X (e2.den)))) ∧ (((Y (e2.den))) = ((Y (e2.den)))))))))))) (by kernel_rfl) ?_
  intro h1 h2
  refine ⟨rfl, ⟨Int.le_refl _, fun _ => fun _ => ⟨rfl, rfl⟩⟩, ?_, Int.le_refl _, fun _ => fun _ => ⟨rfl, rfl⟩⟩
  -- 1: (0 ≤ (fidx (fun i => !(okP ((X (i))) ((Y (i))))) n)) ↔ ((decide (0 ≤ fidx (fun i => !(okP (X (i)) (Y
  simp
def c_ContainsFunc_p1 (X : Int → Int) (Y : Int → Int) (n : Int) : Cn Try.prog := ⟨_, _, _, _, _, ContainsFunc_p1 X Y n⟩
theorem i_allValid (X : Int → Int) (Y : Int → Int) (n : Int) : RunsTo Try.prog 10 [(.sl 0 2 (.lit 0) (.v fun _ => n) 1048576)] [some ⟨24, 2, true, (.sym (.v fun _ => n) fun e => [(.int .i64 (.v fun _ => (X (e.den))) (-9223372036854775808) 9223372036854775807), (.int .i64 (.v fun _ => (Y (e.den))) (-9223372036854775808) 9223372036854775807)])⟩] (.bool (.v fun _ => allB (fun i => okP (X (i)) (Y (i))) n)) [some ⟨24, 2, true, (.sym (.v fun _ => n) fun e => [(.int .i64 (.v fun _ => (X (e.den))) (-9223372036854775808) 9223372036854775807), (.int .i64 (.v fun _ => (Y (e.den))) (-9223372036854775808) 9223372036854775807)])⟩] := by
  refine RunsTo.go env Try.func10 rfl Try.call10 rfl rfl (fun _ _ => (.call (c_ContainsFunc_p1 X Y n) .ret)) (G := (0 ≤ n ∧ n ≤ 1048576) → (∀ e3 : E, ((0 ≤ e3.den ∧ e3.den < n) → (((-9223372036854775808) ≤ ((X (e3.den))) ∧ ((X (e3.den))) ≤ 9223372036854775807) ∧ ((-9223372036854775808) ≤ ((Y (e3.den))) ∧ ((Y (e3.den))) ≤ 9223372036854775807)))) → ((n = n) ∧ (((n ≤ n) ∧ (∀ e1 : E, ((0 ≤ e1.den ∧ e1.den < n) → ((((X (e1.den))) = ((X (e1.den)))) ∧ (((Y (e1.den))) = ((Y (e1.den)))))))) ∧ ((((decide (0 ≤ fidx (fun i => !(okP ((X (i))) ((Y (i))))) n)) = false) ↔ ((allB (fun i => okP (X (i)) (Y (i))) n) = true)) ∧ ((n ≤ n) ∧ (∀ e2 : E, ((0 ≤ e2.den ∧ e2.den < n) → ((((X (e2.den))) = ((X (e2.den)))) ∧ (((Y (e2.den))) = ((Y (e2.den)))))))))))) (by kernel_rfl) ?_
  intro h1 h2
  refine ⟨rfl, ⟨Int.le_refl _, fun _ => fun _ => ⟨rfl, rfl⟩⟩, ?_, Int.le_refl _, fun _ => fun _ => ⟨rfl, rfl⟩⟩
  -- 1: ((decide (0 ≤ fidx (fun i => !(okP ((X (i))) ((Y (i))))) n)) = false) ↔ ((allB (fun i => okP (X (i))
  rw [← fidx_neg]; simp
def c_i_allValid (X : Int → Int) (Y : Int → Int) (n : Int) : Cn Try.prog := ⟨_, _, _, _, _, i_allValid X Y n⟩
end Go.Proofs.Ytefikodgmhlfnaa
