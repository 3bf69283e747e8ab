/- The order of a tree: the program's, and the reference's whole. -/
import Derived.Test.YtljhomjaamjfaaaK92
import Derived.Test.YtljhomjaamjfaaaSp
set_option linter.unusedSimpArgs false
set_option linter.unusedVariables false
set_option maxRecDepth 100000
namespace Go.Proofs.Ytljhomjaamjfaaa
open Go.Sym
theorem SortFunc_k (X : Int → Int) (Y : Int → Int) (n : Int) (t : Bool) (Z : Int → Int) (K : Int) (r : Int) (m : Int) (hp : ((n : Int) ≤ 1048576 ∧ (0 : Int) ≤ r ∧ (r : Int) + m ≤ K ∧ (0 : Int) < m) ∧ ∀ i, r ≤ i → i < r + m → 0 ≤ (Z (i)) ∧ (Z (i)) < n) : RunsTo Try.prog 12 [(.sl 0 1 (.v fun _ => r) (.v fun _ => m) 1048576), (.fn 13 [(.ptr 1 1 (.lit 0) 0), (.ptr 2 1 (.lit 0) 0)])] [some ⟨3, 1, true, (.sym (.v fun _ => K) fun e => [(.int .i64 (.v fun _ => (Z (e.den))) 0 1048576)])⟩, some ⟨23, 1, true, (.lit [[(.sl 3 2 (.lit 0) (.v fun _ => n) 1048576)]])⟩, some ⟨4, 1, true, (.lit [[(.bool (.v fun _ => t))]])⟩, some ⟨29, 2, true, (.sym (.v fun _ => n) fun e => [(.int .i64 (.v fun _ => (X (e.den))) (-9223372036854775808) 9223372036854775807), (.int .i64 (.v fun _ => (Y (e.den))) (-9223372036854775808) 9223372036854775807)])⟩] (.tup []) [some ⟨3, 1, true, (.sym (.v fun _ => K) fun e => [(.int .i64 (.v fun _ => ssZ X Y t Z r m e.den) 0 1048576)])⟩, some ⟨23, 1, true, (.lit [[(.sl 3 2 (.lit 0) (.v fun _ => n) 1048576)]])⟩, some ⟨4, 1, true, (.lit [[(.bool (.v fun _ => t))]])⟩, some ⟨29, 2, true, (.sym (.v fun _ => n) fun e => [(.int .i64 (.v fun _ => (X (e.den))) (-9223372036854775808) 9223372036854775807), (.int .i64 (.v fun _ => (Y (e.den))) (-9223372036854775808) 9223372036854775807)])⟩] := sort_k X Y n t Z K r m hp
def c_SortFunc_k (X : Int → Int) (Y : Int → Int) (n : Int) (t : Bool) (Z : Int → Int) (K : Int) (r : Int) (m : Int) : CnH Try.prog := ⟨_, _, _, _, _, _, SortFunc_k X Y n t Z K r m⟩
abbrev i_from_S (X : Int → Int) (Y : Int → Int) (n : Int) (t : Bool) (Z : Int → Int) (K : Int) (r : Int) (m : Int) (O : Int → Int) (k : Int) : Prop := Runs Try.prog 11 [(.sl 0 1 (.v fun _ => r) (.v fun _ => m) 1048576), (.bool (.v fun _ => t)), (.ptr 1 1 (.lit 0) 0), (.ptr 2 1 (.lit 0) 0), (.ptr 3 1 (.lit 0) 0)] [some ⟨3, 1, true, (.sym (.v fun _ => K) fun e => [(.int .i64 (.v fun _ => (Z (e.den))) 0 1048576)])⟩, some ⟨23, 1, true, (.lit [[(.sl 4 2 (.lit 0) (.v fun _ => n) 1048576)]])⟩, some ⟨25, 1, true, (.lit [[(.sl 5 1 (.lit 0) (.v fun _ => k) 1048576)]])⟩, some ⟨35, 1, true, (.lit [[(.fn 11 [(.ptr 1 1 (.lit 0) 0), (.ptr 2 1 (.lit 0) 0), (.ptr 3 1 (.lit 0) 0)])]])⟩, some ⟨29, 2, true, (.sym (.v fun _ => n) fun e => [(.int .i64 (.v fun _ => (X (e.den))) (-9223372036854775808) 9223372036854775807), (.int .i64 (.v fun _ => (Y (e.den))) (-9223372036854775808) 9223372036854775807)])⟩, some ⟨3, 1, true, (.sym (.v fun _ => k) fun e => [(.int .i64 (.v fun _ => (O (e.den))) 0 1048576)])⟩] fun rr mm => ∃ x : (Int → Int), (∀ i, (i < r ∨ r + m ≤ i) → (x (i)) = (Z (i))) ∧ rr = (.tup []) ∧ mm = [some ⟨3, 1, true, (.sym (.v fun _ => K) fun e => [(.int .i64 (.v fun _ => (x (e.den))) 0 1048576)])⟩, some ⟨23, 1, true, (.lit [[(.sl 4 2 (.lit 0) (.v fun _ => n) 1048576)]])⟩, some ⟨25, 1, true, (.lit [[(.sl 6 1 (.lit 0) (.v fun _ => k + m) 1048576)]])⟩, some ⟨35, 1, true, (.lit [[(.fn 11 [(.ptr 1 1 (.lit 0) 0), (.ptr 2 1 (.lit 0) 0), (.ptr 3 1 (.lit 0) 0)])]])⟩, some ⟨29, 2, true, (.sym (.v fun _ => n) fun e => [(.int .i64 (.v fun _ => (X (e.den))) (-9223372036854775808) 9223372036854775807), (.int .i64 (.v fun _ => (Y (e.den))) (-9223372036854775808) 9223372036854775807)])⟩, none, some ⟨3, 1, true, (.sym (.v fun _ => k + m) fun e => [(.int .i64 (.v fun _ => kdO X Y t Z r m O k (e.den)) 0 1048576)])⟩]
def c_i_from_ih {M : Nat} (ih : ∀ (X : Int → Int) (Y : Int → Int) (n : Int) (t : Bool) (Z : Int → Int) (K : Int) (r : Int) (m : Int) (O : Int → Int) (k : Int), m.toNat < M → (((0 : Int) ≤ r ∧ (r : Int) + m ≤ K) ∧ ((n : Int) ≤ 20 ∧ (0 : Int) ≤ m ∧ (0 : Int) ≤ k ∧ (k : Int) + m ≤ 20) ∧ (∀ i, r ≤ i → i < r + m → 0 ≤ (Z (i)) ∧ (Z (i)) < n)) → i_from_S X Y n t Z K r m O k) (X : Int → Int) (Y : Int → Int) (n : Int) (t : Bool) (Z : Int → Int) (K : Int) (r : Int) (m : Int) (O : Int → Int) (k : Int) : CnXH Try.prog := ⟨_, _, _, (Int → Int), (fun x => ∀ i, (i < r ∨ r + m ≤ i) → (x (i)) = (Z (i))), (fun x => (.tup [])), (fun x => [some ⟨3, 1, true, (.sym (.v fun _ => K) fun e => [(.int .i64 (.v fun _ => (x (e.den))) 0 1048576)])⟩, some ⟨23, 1, true, (.lit [[(.sl 4 2 (.lit 0) (.v fun _ => n) 1048576)]])⟩, some ⟨25, 1, true, (.lit [[(.sl 6 1 (.lit 0) (.v fun _ => k + m) 1048576)]])⟩, some ⟨35, 1, true, (.lit [[(.fn 11 [(.ptr 1 1 (.lit 0) 0), (.ptr 2 1 (.lit 0) 0), (.ptr 3 1 (.lit 0) 0)])]])⟩, some ⟨29, 2, true, (.sym (.v fun _ => n) fun e => [(.int .i64 (.v fun _ => (X (e.den))) (-9223372036854775808) 9223372036854775807), (.int .i64 (.v fun _ => (Y (e.den))) (-9223372036854775808) 9223372036854775807)])⟩, none, some ⟨3, 1, true, (.sym (.v fun _ => k + m) fun e => [(.int .i64 (.v fun _ => kdO X Y t Z r m O k (e.den)) 0 1048576)])⟩]), (m.toNat < M) ∧ (((0 : Int) ≤ r ∧ (r : Int) + m ≤ K) ∧ ((n : Int) ≤ 20 ∧ (0 : Int) ≤ m ∧ (0 : Int) ≤ k ∧ (k : Int) + m ≤ 20) ∧ (∀ i, r ≤ i → i < r + m → 0 ≤ (Z (i)) ∧ (Z (i)) < n)), fun h => ih X Y n t Z K r m O k h.1 h.2⟩
theorem i_from_st (X : Int → Int) (Y : Int → Int) (n : Int) (t : Bool) (Z : Int → Int) (K : Int) (r : Int) (m : Int) (O : Int → Int) (k : Int) (hp : ((0 : Int) ≤ r ∧ (r : Int) + m ≤ K) ∧ ((n : Int) ≤ 20 ∧ (0 : Int) ≤ m ∧ (0 : Int) ≤ k ∧ (k : Int) + m ≤ 20) ∧ (∀ i, r ≤ i → i < r + m → 0 ≤ (Z (i)) ∧ (Z (i)) < n)) (M : Nat) (hM : M = m.toNat) (ih : ∀ (X : Int → Int) (Y : Int → Int) (n : Int) (t : Bool) (Z : Int → Int) (K : Int) (r : Int) (m : Int) (O : Int → Int) (k : Int), m.toNat < M → (((0 : Int) ≤ r ∧ (r : Int) + m ≤ K) ∧ ((n : Int) ≤ 20 ∧ (0 : Int) ≤ m ∧ (0 : Int) ≤ k ∧ (k : Int) + m ≤ 20) ∧ (∀ i, r ≤ i → i < r + m → 0 ≤ (Z (i)) ∧ (Z (i)) < n)) → i_from_S X Y n t Z K r m O k) : i_from_S X Y n t Z K r m O k := by
  refine RunsX.goK (X := (Int → Int)) (I := (fun x => ∀ i, (i < r ∨ r + m ≤ i) → (x (i)) = (Z (i)))) (R := (fun x => (.tup []))) (M := (fun x => [some ⟨3, 1, true, (.sym (.v fun _ => K) fun e => [(.int .i64 (.v fun _ => (x (e.den))) 0 1048576)])⟩, some ⟨23, 1, true, (.lit [[(.sl 4 2 (.lit 0) (.v fun _ => n) 1048576)]])⟩, some ⟨25, 1, true, (.lit [[(.sl 6 1 (.lit 0) (.v fun _ => k + m) 1048576)]])⟩, some ⟨35, 1, true, (.lit [[(.fn 11 [(.ptr 1 1 (.lit 0) 0), (.ptr 2 1 (.lit 0) 0), (.ptr 3 1 (.lit 0) 0)])]])⟩, some ⟨29, 2, true, (.sym (.v fun _ => n) fun e => [(.int .i64 (.v fun _ => (X (e.den))) (-9223372036854775808) 9223372036854775807), (.int .i64 (.v fun _ => (Y (e.den))) (-9223372036854775808) 9223372036854775807)])⟩, none, some ⟨3, 1, true, (.sym (.v fun _ => k + m) fun e => [(.int .i64 (.v fun _ => kdO X Y t Z r m O k (e.den)) 0 1048576)])⟩])) env Try.func11 rfl Try.call11 rfl rfl 5 (Nat.le_of_ble_eq_true rfl) rfl (fun _ _ => (.ite .ret (.callH (c_SortFunc_k X Y n t Z K r m) (.need (.need (.need (.need (.callXH (c_i_from_ih ih X Y n (!t) (ssZ X Y t Z r m) K r (Int.tdiv m 2) ((fun κ => if κ = k then (ssZ X Y t Z r m (r + (Int.tdiv m 2))) else ((O (κ))))) (k + 1)) fun x11 => (.need (.callXH (c_i_from_ih ih X Y n (!t) x11 K (r + ((Int.tdiv m 2) + 1)) (m - ((Int.tdiv m 2) + 1)) ((fun κ => kdO X Y (!t) (ssZ X Y t Z r m) r (Int.tdiv m 2) ((fun κ => if κ = k then (ssZ X Y t Z r m (r + (Int.tdiv m 2))) else ((O (κ))))) (k + 1) (κ))) ((k + 1) + (Int.tdiv m 2))) fun x16 => .ret)))))))))) (G := (0 ≤ m ∧ m ≤ 1048576) → ((∀ e24 : E, ((0 ≤ e24.den ∧ e24.den < K) → (0 ≤ ((Z (e24.den))) ∧ ((Z (e24.den))) ≤ 1048576))) ∧ ((0 ≤ n ∧ n ≤ 1048576) ∧ ((0 ≤ k ∧ k ≤ 1048576) ∧ ((∀ e23 : E, ((0 ≤ e23.den ∧ e23.den < n) → (((-9223372036854775808) ≤ ((X (e23.den))) ∧ ((X (e23.den))) ≤ 9223372036854775807) ∧ ((-9223372036854775808) ≤ ((Y (e23.den))) ∧ ((Y (e23.den))) ≤ 9223372036854775807)))) ∧ (∀ e22 : E, ((0 ≤ e22.den ∧ e22.den < k) → (0 ≤ ((O (e22.den))) ∧ ((O (e22.den))) ≤ 1048576))))))) → (((m = 0) → (∃ y1 : (Int → Int), ((∀ i, (i < r ∨ r + m ≤ i) → (y1 (i)) = (Z (i))) ∧ (((K ≤ K) ∧ (∀ e4 : E, ((0 ≤ e4.den ∧ e4.den < K) → (((Z (e4.den))) = ((y1 (e4.den))))))) ∧ ((n = n) ∧ ((k = (k + m)) ∧ (((n ≤ n) ∧ (∀ e3 : E, ((0 ≤ e3.den ∧ e3.den < n) → ((((X (e3.den))) = ((X (e3.den)))) ∧ (((Y (e3.den))) = ((Y (e3.den)))))))) ∧ (((k + m) ≤ k) ∧ (∀ e2 : E, ((0 ≤ e2.den ∧ e2.den < (k + m)) → (((O (e2.den))) = (kdO X Y t Z r m O k (e2.den))))))))))))) ∧ ((m ≠ 0) → ((((n : Int) ≤ 1048576 ∧ (0 : Int) ≤ r ∧ (r : Int) + m ≤ K ∧ (0 : Int) < m) ∧ ∀ i, r ≤ i → i < r + m → 0 ≤ ((Z (i))) ∧ ((Z (i))) < n) ∧ (((r = r) ∧ (m = m)) ∧ ((((K ≤ K) ∧ (∀ e6 : E, ((0 ≤ e6.den ∧ e6.den < K) → (((Z (e6.den))) = ((Z (e6.den))))))) ∧ ((n = n) ∧ (((t = true) ↔ (t = true)) ∧ ((n ≤ n) ∧ (∀ e5 : E, ((0 ≤ e5.den ∧ e5.den < n) → ((((X (e5.den))) = ((X (e5.den)))) ∧ (((Y (e5.den))) = ((Y (e5.den))))))))))) ∧ ((((0 ≤ (Int.tdiv m 2)) ∧ ((Int.tdiv m 2) < m))) ∧ (((r + (Int.tdiv m 2)) < K) ∧ ((k = k) ∧ ((((0 ≤ (Int.tdiv m 2)) ∧ ((Int.tdiv m 2) ≤ m))) ∧ ((((Int.tdiv m 2).toNat < M) ∧ (((0 : Int) ≤ r ∧ (r : Int) + (Int.tdiv m 2) ≤ K) ∧ ((n : Int) ≤ 20 ∧ (0 : Int) ≤ (Int.tdiv m 2) ∧ (0 : Int) ≤ (k + 1) ∧ ((k + 1) : Int) + (Int.tdiv m 2) ≤ 20) ∧ (∀ i, r ≤ i → i < r + (Int.tdiv m 2) → 0 ≤ (ssZ X Y t Z r m (i)) ∧ (ssZ X Y t Z r m (i)) < n))) ∧ ((((r = r) ∧ ((Int.tdiv m 2) = (Int.tdiv m 2))) ∧ ((t = false) ↔ ((!t) = true))) ∧ ((((K ≤ K) ∧ (∀ e10 : E, ((0 ≤ e10.den ∧ e10.den < K) → ((ssZ X Y t Z r m (e10.den)) = (ssZ X Y t Z r m ((e10.den))))))) ∧ ((n = n) ∧ ((((k + 1) = (k + 1)) ∧ (((k + 1) ≤ 1048577) → ((k + 1) ≤ 1048576))) ∧ (((n ≤ n) ∧ (∀ e9 : E, ((0 ≤ e9.den ∧ e9.den < n) → ((((X (e9.den))) = ((X (e9.den)))) ∧ (((Y (e9.den))) = ((Y (e9.den)))))))) ∧ (((0 : Int) ≤ k ∧ (k + 1) = k + 1) ∧ (((k ≤ k) ∧ (∀ e8 : E, ((0 ≤ e8.den ∧ e8.den < k) → (((O (e8.den))) = ((if (e8.den) = k then (ssZ X Y t Z r m (r + (Int.tdiv m 2))) else ((O ((e8.den)))))))))) ∧ (∀ e7 : E, ((e7.den = k) → ((ssZ X Y t Z r m (r + (Int.tdiv m 2))) = ((if (e7.den) = k then (ssZ X Y t Z r m (r + (Int.tdiv m 2))) else ((O ((e7.den))))))))))))))) ∧ (∀ x11 : (Int → Int), ((∀ i, (i < r ∨ r + (Int.tdiv m 2) ≤ i) → (x11 (i)) = (ssZ X Y t Z r m (i))) → ((((0 ≤ ((Int.tdiv m 2) + 1)) ∧ (((Int.tdiv m 2) + 1) ≤ m))) ∧ ((((m - ((Int.tdiv m 2) + 1)).toNat < M) ∧ (((0 : Int) ≤ (r + ((Int.tdiv m 2) + 1)) ∧ ((r + ((Int.tdiv m 2) + 1)) : Int) + (m - ((Int.tdiv m 2) + 1)) ≤ K) ∧ ((n : Int) ≤ 20 ∧ (0 : Int) ≤ (m - ((Int.tdiv m 2) + 1)) ∧ (0 : Int) ≤ ((k + 1) + (Int.tdiv m 2)) ∧ (((k + 1) + (Int.tdiv m 2)) : Int) + (m - ((Int.tdiv m 2) + 1)) ≤ 20) ∧ (∀ i, (r + ((Int.tdiv m 2) + 1)) ≤ i → i < (r + ((Int.tdiv m 2) + 1)) + (m - ((Int.tdiv m 2) + 1)) → 0 ≤ ((x11 (i))) ∧ ((x11 (i))) < n))) ∧ (((((r + ((Int.tdiv m 2) + 1)) = (r + ((Int.tdiv m 2) + 1))) ∧ ((m - ((Int.tdiv m 2) + 1)) = (m - ((Int.tdiv m 2) + 1)))) ∧ ((t = false) ↔ ((!t) = true))) ∧ ((((K ≤ K) ∧ (∀ e15 : E, ((0 ≤ e15.den ∧ e15.den < K) → (((x11 (e15.den))) = ((x11 (e15.den))))))) ∧ ((n = n) ∧ ((((k + 1) + (Int.tdiv m 2)) = ((k + 1) + (Int.tdiv m 2))) ∧ (((n ≤ n) ∧ (∀ e14 : E, ((0 ≤ e14.den ∧ e14.den < n) → ((((X (e14.den))) = ((X (e14.den)))) ∧ (((Y (e14.den))) = ((Y (e14.den)))))))) ∧ ((((k + 1) + (Int.tdiv m 2)) ≤ ((k + 1) + (Int.tdiv m 2))) ∧ (∀ e13 : E, ((0 ≤ e13.den ∧ e13.den < ((k + 1) + (Int.tdiv m 2))) → ((kdO X Y (!t) (ssZ X Y t Z r m) r (Int.tdiv m 2) ((fun κ => if κ = k then (ssZ X Y t Z r m (r + (Int.tdiv m 2))) else ((O (κ))))) (k + 1) (e13.den)) = ((kdO X Y (!t) (ssZ X Y t Z r m) r (Int.tdiv m 2) ((fun κ => if κ = k then (ssZ X Y t Z r m (r + (Int.tdiv m 2))) else ((O (κ))))) (k + 1) ((e13.den)))))))))))) ∧ (∀ x16 : (Int → Int), ((∀ i, (i < (r + ((Int.tdiv m 2) + 1)) ∨ (r + ((Int.tdiv m 2) + 1)) + (m - ((Int.tdiv m 2) + 1)) ≤ i) → (x16 (i)) = ((x11 (i)))) → (∃ y18 : (Int → Int), ((∀ i, (i < r ∨ r + m ≤ i) → (y18 (i)) = (Z (i))) ∧ (((K ≤ K) ∧ (∀ e21 : E, ((0 ≤ e21.den ∧ e21.den < K) → (((x16 (e21.den))) = ((y18 (e21.den))))))) ∧ ((n = n) ∧ (((((k + 1) + (Int.tdiv m 2)) + (m - ((Int.tdiv m 2) + 1))) = (k + m)) ∧ (((n ≤ n) ∧ (∀ e20 : E, ((0 ≤ e20.den ∧ e20.den < n) → ((((X (e20.den))) = ((X (e20.den)))) ∧ (((Y (e20.den))) = ((Y (e20.den)))))))) ∧ (((k + m) ≤ (((k + 1) + (Int.tdiv m 2)) + (m - ((Int.tdiv m 2) + 1)))) ∧ (∀ e19 : E, ((0 ≤ e19.den ∧ e19.den < (k + m)) → ((kdO X Y (!t) x11 (r + ((Int.tdiv m 2) + 1)) (m - ((Int.tdiv m 2) + 1)) ((fun κ => kdO X Y (!t) (ssZ X Y t Z r m) r (Int.tdiv m 2) ((fun κ => if κ = k then (ssZ X Y t Z r m (r + (Int.tdiv m 2))) else ((O (κ))))) (k + 1) (κ))) ((k + 1) + (Int.tdiv m 2)) (e19.den)) = (kdO X Y t Z r m O k (e19.den))))))))))))))))))))))))))))))))) (by kernel_rfl) ?_
  intro h1 h2
  refine ⟨?_, ?_⟩
  · intro c25
    refine ⟨Z, ?_⟩
    try dsimp only
    refine ⟨?_, ?_, rfl, ?_, ⟨Int.le_refl _, fun _ => fun _ => ⟨rfl, rfl⟩⟩, ?_, ?_⟩
    · omega
    · refine ⟨Int.le_refl _, ?_⟩
      intro e4
      intro c26
      rfl
    · omega
    · omega
    · intro e2
      intro c27
      exact (kdO_nil (by omega) (by omega)).symm
  · intro c28
    refine ⟨?_, ⟨rfl, rfl⟩, ⟨⟨Int.le_refl _, fun _ => fun _ => rfl⟩, ⟨rfl, ⟨Iff.rfl, ⟨Int.le_refl _, fun _ => fun _ => ⟨rfl, rfl⟩⟩⟩⟩⟩, ?_, ?_, ?_, ?_, ?_, ?_, ?_, ?_⟩
    · exact ⟨by omega, hp.2.2⟩
    · have ht := Int.tdiv_eq_ediv_of_nonneg (a := m) (b := 2) (by omega); omega
    · have ht := Int.tdiv_eq_ediv_of_nonneg (a := m) (b := 2) (by omega); omega
    · rfl
    · have ht := Int.tdiv_eq_ediv_of_nonneg (a := m) (b := 2) (by omega); omega
    · have ht := Int.tdiv_eq_ediv_of_nonneg (a := m) (b := 2) (by omega); exact ⟨by omega, by omega, by omega, fun q a b => ssZ_bd hp.2.2 (by omega) (by omega)⟩
    · refine ⟨⟨rfl, rfl⟩, ?_⟩
      cases t <;> simp; done
    · refine ⟨⟨Int.le_refl _, fun _ => fun _ => rfl⟩, rfl, ?_, ⟨Int.le_refl _, fun _ => fun _ => ⟨rfl, rfl⟩⟩, ?_, ?_, ?_⟩
      · refine ⟨rfl, ?_⟩
        intro c29
        omega
      · omega
      · refine ⟨Int.le_refl _, ?_⟩
        intro e8
        intro c30
        omega
      · intro e7
        intro c31
        omega
    · intro Z212
      intro c32
      refine ⟨?_, ?_, ?_, ⟨⟨Int.le_refl _, fun _ => fun _ => rfl⟩, ⟨rfl, ⟨rfl, ⟨⟨Int.le_refl _, fun _ => fun _ => ⟨rfl, rfl⟩⟩, ⟨Int.le_refl _, fun _ => fun _ => rfl⟩⟩⟩⟩⟩, ?_⟩
      · have ht := Int.tdiv_eq_ediv_of_nonneg (a := m) (b := 2) (by omega); omega
      · have ht := Int.tdiv_eq_ediv_of_nonneg (a := m) (b := 2) (by omega); exact ⟨by omega, by omega, by omega, fun q a b => by rw [c32 q (by omega)]; exact ssZ_bd hp.2.2 (by omega) (by omega)⟩
      · refine ⟨⟨rfl, rfl⟩, ?_⟩
        cases t <;> simp; done
      · intro Z217
        intro c33
        refine ⟨Z217, ?_⟩
        try dsimp only
        refine ⟨?_, ?_, rfl, ?_, ⟨Int.le_refl _, fun _ => fun _ => ⟨rfl, rfl⟩⟩, ?_, ?_⟩
        · have ht := Int.tdiv_eq_ediv_of_nonneg (a := m) (b := 2) (by omega); exact fun i hi => (c33 i (by omega)).trans ((c32 i (by omega)).trans (ssZ_out (by omega)))
        · refine ⟨Int.le_refl _, ?_⟩
          intro e21
          intro c34
          rfl
        · omega
        · omega
        · intro e19
          intro c35
          exact kdO_imp (by omega) c32 (by omega) (by omega)
theorem i_from (X : Int → Int) (Y : Int → Int) (n : Int) (t : Bool) (Z : Int → Int) (K : Int) (r : Int) (m : Int) (O : Int → Int) (k : Int) (hp : ((0 : Int) ≤ r ∧ (r : Int) + m ≤ K) ∧ ((n : Int) ≤ 20 ∧ (0 : Int) ≤ m ∧ (0 : Int) ≤ k ∧ (k : Int) + m ≤ 20) ∧ (∀ i, r ≤ i → i < r + m → 0 ≤ (Z (i)) ∧ (Z (i)) < n)) : i_from_S X Y n t Z K r m O k := by
  have key : ∀ (M : Nat) (X : Int → Int) (Y : Int → Int) (n : Int) (t : Bool) (Z : Int → Int) (K : Int) (r : Int) (m : Int) (O : Int → Int) (k : Int), m.toNat = M → (((0 : Int) ≤ r ∧ (r : Int) + m ≤ K) ∧ ((n : Int) ≤ 20 ∧ (0 : Int) ≤ m ∧ (0 : Int) ≤ k ∧ (k : Int) + m ≤ 20) ∧ (∀ i, r ≤ i → i < r + m → 0 ≤ (Z (i)) ∧ (Z (i)) < n)) → i_from_S X Y n t Z K r m O k := by
    intro M
    induction M using Nat.strongRecOn with
    | ind M IH => exact fun X Y n t Z K r m O k e hp => i_from_st X Y n t Z K r m O k hp M e.symm (fun X Y n t Z K r m O k h1 h2 => IH _ h1 X Y n t Z K r m O k rfl h2)
  exact key _ X Y n t Z K r m O k rfl hp
def c_i_from (X : Int → Int) (Y : Int → Int) (n : Int) (t : Bool) (Z : Int → Int) (K : Int) (r : Int) (m : Int) (O : Int → Int) (k : Int) : CnXH Try.prog := ⟨_, _, _, (Int → Int), (fun x => ∀ i, (i < r ∨ r + m ≤ i) → (x (i)) = (Z (i))), (fun x => (.tup [])), (fun x => [some ⟨3, 1, true, (.sym (.v fun _ => K) fun e => [(.int .i64 (.v fun _ => (x (e.den))) 0 1048576)])⟩, some ⟨23, 1, true, (.lit [[(.sl 4 2 (.lit 0) (.v fun _ => n) 1048576)]])⟩, some ⟨25, 1, true, (.lit [[(.sl 6 1 (.lit 0) (.v fun _ => k + m) 1048576)]])⟩, some ⟨35, 1, true, (.lit [[(.fn 11 [(.ptr 1 1 (.lit 0) 0), (.ptr 2 1 (.lit 0) 0), (.ptr 3 1 (.lit 0) 0)])]])⟩, some ⟨29, 2, true, (.sym (.v fun _ => n) fun e => [(.int .i64 (.v fun _ => (X (e.den))) (-9223372036854775808) 9223372036854775807), (.int .i64 (.v fun _ => (Y (e.den))) (-9223372036854775808) 9223372036854775807)])⟩, none, some ⟨3, 1, true, (.sym (.v fun _ => k + m) fun e => [(.int .i64 (.v fun _ => kdO X Y t Z r m O k (e.den)) 0 1048576)])⟩]), _, i_from X Y n t Z K r m O k⟩
theorem KdOrder2 (pX : Int) (pY : Int) : RunsTo Try.prog 19 [(.agg [(.int .i64 (.v fun _ => pX) (-9223372036854775808) 9223372036854775807), (.int .i64 (.v fun _ => pY) (-9223372036854775808) 9223372036854775807)])] [] (.bool (.lit true)) [] := by
  refine RunsTo.go env Try.func19 rfl Try.call19 rfl rfl (fun _ _ => .ret) (G := (((-9223372036854775808) ≤ pX ∧ pX ≤ 9223372036854775807) ∧ ((-9223372036854775808) ≤ pY ∧ pY ≤ 9223372036854775807)) → (True) → (True)) (by kernel_rfl) ?_
  intro h1 h2
  trivial
def c_KdOrder2 (pX : Int) (pY : Int) : Cn Try.prog := ⟨_, _, _, _, _, KdOrder2 pX pY⟩
theorem i_picked_k (X : Int → Int) (Y : Int → Int) (n : Int) : RunsTo Try.prog 18 [(.sl 0 2 (.lit 0) (.v fun _ => n) 20), (.fn 19 [])] [some ⟨29, 2, true, (.sym (.v fun _ => n) fun e => [(.int .i64 (.v fun _ => (X (e.den))) (-9223372036854775808) 9223372036854775807), (.int .i64 (.v fun _ => (Y (e.den))) (-9223372036854775808) 9223372036854775807)])⟩] (.sl 1 1 (.lit 0) (.v fun _ => n) 1048576) [some ⟨29, 2, true, (.sym (.v fun _ => n) fun e => [(.int .i64 (.v fun _ => (X (e.den))) (-9223372036854775808) 9223372036854775807), (.int .i64 (.v fun _ => (Y (e.den))) (-9223372036854775808) 9223372036854775807)])⟩, some ⟨3, 1, true, (.sym (.v fun _ => n) fun e => [(.int .i64 (.v fun _ => e.den) 0 1048576)])⟩] := by
  refine RunsTo.go env Try.func18 rfl Try.call18 rfl rfl (fun _ _ => (.need (.loop [] [0, 1] (Int) (fun x1 => ⟨spl 32 0 [(1, (.fn 19 [])), (4, (.raw (.slice none 0 0))), (5, (.sl 1 1 (.lit 0) (.v fun _ => (x1)) 1048576)), (11, (.sl 0 2 (.lit 0) (.v fun _ => n) 20)), (12, (.int .i64 (.v fun _ => n) 0 20)), (13, (.int .i64 (.v fun _ => x1) 0 20))], [some ⟨29, 2, true, (.sym (.v fun _ => n) fun e => [(.int .i64 (.v fun _ => (X (e.den))) (-9223372036854775808) 9223372036854775807), (.int .i64 (.v fun _ => (Y (e.den))) (-9223372036854775808) 9223372036854775807)])⟩, some ⟨3, 1, true, (.sym (.v fun _ => (x1)) fun e => [(.int .i64 (.v fun _ => (e.den)) 0 1048576)])⟩], 1⟩) (fun x1 => 0 ≤ x1 ∧ x1 ≤ n) (fun x1 => (n - x1).toNat) fun x1 => (.ite (.need (.need (.call (c_KdOrder2 ((X (x1))) ((Y (x1)))) (.need (.next [0, 1]))))) (.out (.need .ret)))))) (G := (0 ≤ n ∧ n ≤ 20) → (∀ e10 : E, ((0 ≤ e10.den ∧ e10.den < n) → (((-9223372036854775808) ≤ ((X (e10.den))) ∧ ((X (e10.den))) ≤ 9223372036854775807) ∧ ((-9223372036854775808) ≤ ((Y (e10.den))) ∧ ((Y (e10.den))) ≤ 9223372036854775807)))) → ((0 ≤ n) ∧ ((∃ y2 : Int, ((0 ≤ y2 ∧ y2 ≤ n) ∧ (((((.slice none 0 0) : Value) = (.slice none 0 0)) ∧ (((0 : Int) = (y2)) ∧ ((n = n) ∧ ((n = n) ∧ ((0 : Int) = y2))))) ∧ (((n ≤ n) ∧ (∀ e3 : E, ((0 ≤ e3.den ∧ e3.den < n) → ((((X (e3.den))) = ((X (e3.den)))) ∧ (((Y (e3.den))) = ((Y (e3.den)))))))) ∧ ((y2) = 0))))) ∧ (∀ x1 : Int, ((0 ≤ x1 ∧ x1 ≤ n) → (((x1 < n) → ((((0 ≤ x1) ∧ (x1 < n))) ∧ ((x1 < n) ∧ (((((X (x1))) = ((X (x1)))) ∧ (((Y (x1))) = ((Y (x1))))) ∧ (((x1) = (x1)) ∧ (∃ y4 : Int, ((0 ≤ y4 ∧ y4 ≤ n) ∧ ((((((.slice none 0 0) : Value) = (.slice none 0 0)) ∧ (((((x1) + 1) = (y4)) ∧ ((((x1) + 1) ≤ 1048577) → ((y4) ≤ 1048576))) ∧ ((n = n) ∧ ((n = n) ∧ (((x1 + 1) = y4) ∧ ((1 ≤ (x1 + 1) ∧ (x1 + 1) ≤ 21) → (0 ≤ y4 ∧ y4 ≤ 20))))))) ∧ (((n ≤ n) ∧ (∀ e7 : E, ((0 ≤ e7.den ∧ e7.den < n) → ((((X (e7.den))) = ((X (e7.den)))) ∧ (((Y (e7.den))) = ((Y (e7.den)))))))) ∧ (((0 : Int) ≤ (x1) ∧ (y4) = (x1) + 1) ∧ ((((x1) ≤ (x1)) ∧ (∀ e6 : E, ((0 ≤ e6.den ∧ e6.den < (x1)) → ((e6.den) = (e6.den))))) ∧ (∀ e5 : E, ((e5.den = (x1)) → (x1 = (e5.den)))))))) ∧ ((n - y4).toNat < (n - x1).toNat))))))))) ∧ ((n ≤ x1) → ((((0 ≤ (x1)) ∧ ((((x1) ≤ (x1)) ∧ ((x1) ≤ (x1)))))) ∧ (((x1) = n) ∧ (((n ≤ n) ∧ (∀ e9 : E, ((0 ≤ e9.den ∧ e9.den < n) → ((((X (e9.den))) = ((X (e9.den)))) ∧ (((Y (e9.den))) = ((Y (e9.den)))))))) ∧ ((n ≤ (x1)) ∧ (∀ e8 : E, ((0 ≤ e8.den ∧ e8.den < n) → ((e8.den) = e8.den)))))))))))))) (by kernel_rfl) ?_
  intro h1 h2
  refine ⟨?_, ?_, ?_⟩
  · omega
  · refine ⟨0, ?_⟩
    try dsimp only
    refine ⟨?_, ?_, ⟨Int.le_refl _, fun _ => fun _ => ⟨rfl, rfl⟩⟩, ?_⟩
    · omega
    · refine ⟨rfl, ?_, rfl, rfl, ?_⟩
      · rfl
      · rfl
    · rfl
  · intro j
    intro I1
    refine ⟨?_, ?_⟩
    · intro c11
      refine ⟨?_, ?_, ⟨rfl, rfl⟩, ?_, ?_⟩
      · omega
      · omega
      · rfl
      · refine ⟨j + 1, ?_⟩
        try dsimp only
        refine ⟨?_, ?_, ?_⟩
        · omega
        · refine ⟨?_, ⟨Int.le_refl _, fun _ => fun _ => ⟨rfl, rfl⟩⟩, ?_, ⟨Int.le_refl _, fun _ => fun _ => rfl⟩, ?_⟩
          · refine ⟨rfl, ?_, rfl, rfl, ?_, ?_⟩
            · refine ⟨?_, ?_⟩
              · rfl
              · intro c12
                omega
            · rfl
            · intro c13
              omega
          · omega
          · intro e5
            intro c14
            omega
        · omega
    · intro c15
      refine ⟨?_, ?_, ⟨Int.le_refl _, fun _ => fun _ => ⟨rfl, rfl⟩⟩, ?_, fun _ => fun _ => rfl⟩
      · omega
      · omega
      · omega
def c_i_picked_k (X : Int → Int) (Y : Int → Int) (n : Int) : Cn Try.prog := ⟨_, _, _, _, _, i_picked_k X Y n⟩
theorem i_KdOrder (X : Int → Int) (Y : Int → Int) (n : Int) : RunsTo Try.prog 5 [(.sl 0 2 (.lit 0) (.v fun _ => n) 1048576)] [some ⟨29, 2, true, (.sym (.v fun _ => n) fun e => [(.int .i64 (.v fun _ => (X (e.den))) (-9223372036854775808) 9223372036854775807), (.int .i64 (.v fun _ => (Y (e.den))) (-9223372036854775808) 9223372036854775807)])⟩] (.sl 1 1 (.lit 0) (.v fun _ => kdN X Y n) 1048576) [some ⟨29, 2, true, (.sym (.v fun _ => n) fun e => [(.int .i64 (.v fun _ => (X (e.den))) (-9223372036854775808) 9223372036854775807), (.int .i64 (.v fun _ => (Y (e.den))) (-9223372036854775808) 9223372036854775807)])⟩, some ⟨3, 1, true, (.sym (.v fun _ => kdN X Y n) fun e => [(.int .i64 (.v fun _ => selL (kdR X Y n) e.den) 0 1048576)])⟩] := by
  refine RunsTo.go env Try.func5 rfl Try.call5 rfl rfl (fun _ _ => (.call (c_i_listOk X Y n) (.ite .ret (.need (.call (c_i_picked_k X Y n) (.callXH (c_i_from X Y n false (fun ι => (ι)) n 0 n (fun ι => 0) 0) fun x6 => .ret)))))) (G := (0 ≤ n ∧ n ≤ 1048576) → (∀ e10 : E, ((0 ≤ e10.den ∧ e10.den < n) → (((-9223372036854775808) ≤ ((X (e10.den))) ∧ ((X (e10.den))) ≤ 9223372036854775807) ∧ ((-9223372036854775808) ≤ ((Y (e10.den))) ∧ ((Y (e10.den))) ≤ 9223372036854775807)))) → ((n = n) ∧ (((n ≤ n) ∧ (∀ e1 : E, ((0 ≤ e1.den ∧ e1.den < n) → ((((X (e1.den))) = ((X (e1.den)))) ∧ (((Y (e1.den))) = ((Y (e1.den)))))))) ∧ ((((listB X Y n) = false) → (((0 : Int) = (kdN X Y n)) ∧ (((n ≤ n) ∧ (∀ e2 : E, ((0 ≤ e2.den ∧ e2.den < n) → ((((X (e2.den))) = ((X (e2.den)))) ∧ (((Y (e2.den))) = ((Y (e2.den)))))))) ∧ ((kdN X Y n) = 0)))) ∧ (((listB X Y n) = true) → ((0 ≤ n) ∧ (((n = n) ∧ ((n ≤ 1048576) → (n ≤ 20))) ∧ (((n ≤ n) ∧ (∀ e3 : E, ((0 ≤ e3.den ∧ e3.den < n) → ((((X (e3.den))) = ((X (e3.den)))) ∧ (((Y (e3.den))) = ((Y (e3.den)))))))) ∧ ((((0 : Int) ≤ 0 ∧ (0 : Int) + n ≤ n) ∧ ((n : Int) ≤ 20 ∧ (0 : Int) ≤ n ∧ (0 : Int) ≤ 0 ∧ (0 : Int) + n ≤ 20) ∧ (∀ i, 0 ≤ i → i < 0 + n → 0 ≤ (i) ∧ (i) < n)) ∧ (((((0 : Int) = 0) ∧ (n = n)) ∧ (false = false)) ∧ ((((n ≤ n) ∧ (∀ e5 : E, ((0 ≤ e5.den ∧ e5.den < n) → ((e5.den) = ((e5.den)))))) ∧ ((n = n) ∧ (((0 : Int) = 0) ∧ (((n ≤ n) ∧ (∀ e4 : E, ((0 ≤ e4.den ∧ e4.den < n) → ((((X (e4.den))) = ((X (e4.den)))) ∧ (((Y (e4.den))) = ((Y (e4.den)))))))) ∧ ((0 : Int) = 0))))) ∧ (∀ x6 : (Int → Int), ((∀ i, (i < 0 ∨ 0 + n ≤ i) → (x6 (i)) = (i)) → (((0 + n) = (kdN X Y n)) ∧ (((n ≤ n) ∧ (∀ e9 : E, ((0 ≤ e9.den ∧ e9.den < n) → ((((X (e9.den))) = ((X (e9.den)))) ∧ (((Y (e9.den))) = ((Y (e9.den)))))))) ∧ (((kdN X Y n) ≤ (0 + n)) ∧ (∀ e8 : E, ((0 ≤ e8.den ∧ e8.den < (kdN X Y n)) → ((kdO X Y false (fun ι => (ι)) 0 n (fun ι => 0) 0 (e8.den)) = (selL (kdR X Y n) e8.den)))))))))))))))))))) (by kernel_rfl) ?_
  intro h1 h2
  refine ⟨rfl, ⟨Int.le_refl _, fun _ => fun _ => ⟨rfl, rfl⟩⟩, ?_, ?_⟩
  · intro c11
    refine ⟨?_, ⟨Int.le_refl _, fun _ => fun _ => ⟨rfl, rfl⟩⟩, ?_⟩
    · have e := kdN_no (X := X) (Y := Y) (n := n) (by assumption); omega
    · have e := kdN_no (X := X) (Y := Y) (n := n) (by assumption); omega
  · intro c12
    refine ⟨?_, ?_, ⟨Int.le_refl _, fun _ => fun _ => ⟨rfl, rfl⟩⟩, ?_, ?_, ⟨⟨Int.le_refl _, fun _ => fun _ => rfl⟩, ⟨rfl, ⟨rfl, ⟨⟨Int.le_refl _, fun _ => fun _ => ⟨rfl, rfl⟩⟩, rfl⟩⟩⟩⟩, ?_⟩
    · omega
    · refine ⟨rfl, ?_⟩
      intro c13
      have hl := listB_n (show listB X Y n = true by assumption); omega
    · have hl := listB_n (show listB X Y n = true by assumption); exact ⟨by omega, by omega, fun q a b => by omega⟩
    · refine ⟨⟨rfl, rfl⟩, ?_⟩
      rfl
    · intro Z27
      intro c14
      refine ⟨?_, ⟨Int.le_refl _, fun _ => fun _ => ⟨rfl, rfl⟩⟩, ?_, ?_⟩
      · rw [kdN_yes (by assumption)]; omega
      · rw [kdN_yes (by assumption)]; omega
      · intro e8
        intro c15
        exact kdO_all (by assumption) (by omega) (fun s a b => rfl)
def c_i_KdOrder (X : Int → Int) (Y : Int → Int) (n : Int) : Cn Try.prog := ⟨_, _, _, _, _, i_KdOrder X Y n⟩
theorem s_KdOrder (X : Int → Int) (Y : Int → Int) (n : Int) : RunsTo Try.prog 7 [(.sl 0 2 (.lit 0) (.v fun _ => n) 1048576)] [some ⟨29, 2, true, (.sym (.v fun _ => n) fun e => [(.int .i64 (.v fun _ => (X (e.den))) (-9223372036854775808) 9223372036854775807), (.int .i64 (.v fun _ => (Y (e.den))) (-9223372036854775808) 9223372036854775807)])⟩] (.sl 1 1 (.lit 0) (.v fun _ => kdN X Y n) 1048576) [some ⟨29, 2, true, (.sym (.v fun _ => n) fun e => [(.int .i64 (.v fun _ => (X (e.den))) (-9223372036854775808) 9223372036854775807), (.int .i64 (.v fun _ => (Y (e.den))) (-9223372036854775808) 9223372036854775807)])⟩, some ⟨3, 1, true, (.sym (.v fun _ => kdN X Y n) fun e => [(.int .i64 (.v fun _ => selL (kdR X Y n) e.den) 0 1048576)])⟩] := by
  refine RunsTo.go env Try.func7 rfl Try.call7 rfl rfl (fun _ _ => (.call (c_s_validPoints X Y n) (.ite .ret (.loop [] [0, 1] (Int) (fun x3 => ⟨spl 23 0 [(0, (.sl 0 2 (.lit 0) (.v fun _ => n) 1048576)), (2, (.raw (.slice none 0 0))), (3, (.sl 1 1 (.lit 0) (.v fun _ => (x3)) 1048576)), (4, (.int .i64 (.v fun _ => x3) 0 1048576))], [some ⟨29, 2, true, (.sym (.v fun _ => n) fun e => [(.int .i64 (.v fun _ => ((X (e.den)))) (-9223372036854775808) 9223372036854775807), (.int .i64 (.v fun _ => ((Y (e.den)))) (-9223372036854775808) 9223372036854775807)])⟩, some ⟨3, 1, true, (.sym (.v fun _ => (x3)) fun e => [(.int .i64 (.v fun _ => (e.den)) 0 1048576)])⟩], 1⟩) (fun x3 => 0 ≤ x3 ∧ x3 ≤ n) (fun x3 => (n - x3).toNat) fun x3 => (.ite (.need (.next [0, 1])) (.out (.callH (c_s_kdOrder X Y n (fun ι => (ι)) (x3) 0 (x3) 0 (fun ι => 0) 0) .ret))))))) (G := (0 ≤ n ∧ n ≤ 1048576) → (∀ e14 : E, ((0 ≤ e14.den ∧ e14.den < n) → (((-9223372036854775808) ≤ ((X (e14.den))) ∧ ((X (e14.den))) ≤ 9223372036854775807) ∧ ((-9223372036854775808) ≤ ((Y (e14.den))) ∧ ((Y (e14.den))) ≤ 9223372036854775807)))) → ((n = n) ∧ (((n ≤ n) ∧ (∀ e1 : E, ((0 ≤ e1.den ∧ e1.den < n) → ((((X (e1.den))) = ((X (e1.den)))) ∧ (((Y (e1.den))) = ((Y (e1.den)))))))) ∧ ((((listB X Y n) = false) → (((0 : Int) = (kdN X Y n)) ∧ (((n ≤ n) ∧ (∀ e2 : E, ((0 ≤ e2.den ∧ e2.den < n) → ((((X (e2.den))) = ((X (e2.den)))) ∧ (((Y (e2.den))) = ((Y (e2.den)))))))) ∧ ((kdN X Y n) = 0)))) ∧ (((listB X Y n) = true) → ((∃ y4 : Int, ((0 ≤ y4 ∧ y4 ≤ n) ∧ (((n = n) ∧ ((((.slice none 0 0) : Value) = (.slice none 0 0)) ∧ (((0 : Int) = (y4)) ∧ ((0 : Int) = y4)))) ∧ (((n ≤ n) ∧ (∀ e5 : E, ((0 ≤ e5.den ∧ e5.den < n) → ((((X (e5.den))) = ((X (e5.den)))) ∧ (((Y (e5.den))) = ((Y (e5.den)))))))) ∧ ((y4) = 0))))) ∧ (∀ x3 : Int, ((0 ≤ x3 ∧ x3 ≤ n) → (((x3 < n) → (((x3) = (x3)) ∧ (∃ y6 : Int, ((0 ≤ y6 ∧ y6 ≤ n) ∧ ((((n = n) ∧ ((((.slice none 0 0) : Value) = (.slice none 0 0)) ∧ (((((x3) + 1) = (y6)) ∧ ((((x3) + 1) ≤ 1048577) → ((y6) ≤ 1048576))) ∧ (((x3 + 1) = y6) ∧ ((1 ≤ (x3 + 1) ∧ (x3 + 1) ≤ 1048577) → (0 ≤ y6 ∧ y6 ≤ 1048576)))))) ∧ (((n ≤ n) ∧ (∀ e9 : E, ((0 ≤ e9.den ∧ e9.den < n) → ((((X (e9.den))) = ((X (e9.den)))) ∧ (((Y (e9.den))) = ((Y (e9.den)))))))) ∧ (((0 : Int) ≤ (x3) ∧ (y6) = (x3) + 1) ∧ ((((x3) ≤ (x3)) ∧ (∀ e8 : E, ((0 ≤ e8.den ∧ e8.den < (x3)) → ((e8.den) = (e8.den))))) ∧ (∀ e7 : E, ((e7.den = (x3)) → (x3 = (e7.den)))))))) ∧ ((n - y6).toNat < (n - x3).toNat)))))) ∧ ((n ≤ x3) → ((((0 : Int) ≤ 0 ∧ (0 : Int) + (x3) ≤ (x3)) ∧ ((0 : Int) = 0 ∨ (0 : Int) = 1) ∧ ((n : Int) ≤ 20 ∧ (0 : Int) ≤ (x3) ∧ (0 : Int) ≤ 0 ∧ (0 : Int) + (x3) ≤ 20) ∧ (∀ i, 0 ≤ i → i < 0 + (x3) → 0 ≤ (i) ∧ (i) < n)) ∧ (((n = n) ∧ ((((0 : Int) = 0) ∧ ((x3) = (x3))) ∧ (((0 : Int) = 0) ∧ ((0 : Int) = 0)))) ∧ ((((n ≤ n) ∧ (∀ e11 : E, ((0 ≤ e11.den ∧ e11.den < n) → ((((X (e11.den))) = ((X (e11.den)))) ∧ (((Y (e11.den))) = ((Y (e11.den)))))))) ∧ ((((x3) ≤ (x3)) ∧ (∀ e10 : E, ((0 ≤ e10.den ∧ e10.den < (x3)) → ((e10.den) = ((e10.den)))))) ∧ ((0 : Int) = 0))) ∧ (((0 + (x3)) = (kdN X Y n)) ∧ (((n ≤ n) ∧ (∀ e13 : E, ((0 ≤ e13.den ∧ e13.den < n) → ((((X (e13.den))) = ((X (e13.den)))) ∧ (((Y (e13.den))) = ((Y (e13.den)))))))) ∧ (((kdN X Y n) ≤ (0 + (x3))) ∧ (∀ e12 : E, ((0 ≤ e12.den ∧ e12.den < (kdN X Y n)) → ((kdO X Y (decide (0 = 1)) (fun ι => (ι)) 0 (x3) (fun ι => 0) 0 (e12.den)) = (selL (kdR X Y n) e12.den)))))))))))))))))))) (by kernel_rfl) ?_
  intro h1 h2
  refine ⟨rfl, ⟨Int.le_refl _, fun _ => fun _ => ⟨rfl, rfl⟩⟩, ?_, ?_⟩
  · intro c15
    refine ⟨?_, ⟨Int.le_refl _, fun _ => fun _ => ⟨rfl, rfl⟩⟩, ?_⟩
    · have e := kdN_no (X := X) (Y := Y) (n := n) (by assumption); omega
    · have e := kdN_no (X := X) (Y := Y) (n := n) (by assumption); omega
  · intro c16
    refine ⟨?_, ?_⟩
    · refine ⟨0, ?_⟩
      try dsimp only
      refine ⟨?_, ?_, ⟨Int.le_refl _, fun _ => fun _ => ⟨rfl, rfl⟩⟩, ?_⟩
      · omega
      · refine ⟨rfl, rfl, ?_, ?_⟩
        · rfl
        · rfl
      · rfl
    · intro j
      intro I1
      refine ⟨?_, ?_⟩
      · intro c17
        refine ⟨?_, ?_⟩
        · rfl
        · refine ⟨j + 1, ?_⟩
          try dsimp only
          refine ⟨?_, ?_, ?_⟩
          · omega
          · refine ⟨?_, ⟨Int.le_refl _, fun _ => fun _ => ⟨rfl, rfl⟩⟩, ?_, ⟨Int.le_refl _, fun _ => fun _ => rfl⟩, ?_⟩
            · refine ⟨rfl, rfl, ?_, ?_, ?_⟩
              · refine ⟨?_, ?_⟩
                · rfl
                · intro c18
                  omega
              · rfl
              · intro c19
                omega
            · omega
            · intro e7
              intro c20
              omega
          · omega
      · intro c21
        refine ⟨?_, ⟨rfl, ⟨⟨rfl, rfl⟩, ⟨rfl, rfl⟩⟩⟩, ⟨⟨Int.le_refl _, fun _ => fun _ => ⟨rfl, rfl⟩⟩, ⟨⟨Int.le_refl _, fun _ => fun _ => rfl⟩, rfl⟩⟩, ?_, ⟨Int.le_refl _, fun _ => fun _ => ⟨rfl, rfl⟩⟩, ?_, ?_⟩
        · have hl := listB_n (show listB X Y n = true by assumption); exact ⟨by omega, by omega, by omega, fun q a b => by omega⟩
        · rw [kdN_yes (by assumption)]; omega
        · rw [kdN_yes (by assumption)]; omega
        · intro e12
          intro c22
          obtain rfl : n = j := (by omega); exact kdO_all (by assumption) (by omega) (fun s a b => rfl)
def c_s_KdOrder (X : Int → Int) (Y : Int → Int) (n : Int) : Cn Try.prog := ⟨_, _, _, _, _, s_KdOrder X Y n⟩
end Go.Proofs.Ytljhomjaamjfaaa
