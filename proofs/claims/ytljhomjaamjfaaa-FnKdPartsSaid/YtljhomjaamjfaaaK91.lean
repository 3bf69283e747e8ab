/- The order of a tree: the reference's. -/
import Derived.Test.YtljhomjaamjfaaaK90
import Derived.Test.YtljhomjaamjfaaaYh
set_option linter.unusedSimpArgs false
set_option linter.unusedVariables false
set_option maxRecDepth 100000
namespace Go.Proofs.Ytljhomjaamjfaaa
open Go.Sym
theorem s_pointLess (aX : Int) (aY : Int) (bX : Int) (bY : Int) : RunsTo Try.prog 45 [(.agg [(.int .i64 (.v fun _ => aX) (-9223372036854775808) 9223372036854775807), (.int .i64 (.v fun _ => aY) (-9223372036854775808) 9223372036854775807)]), (.agg [(.int .i64 (.v fun _ => bX) (-9223372036854775808) 9223372036854775807), (.int .i64 (.v fun _ => bY) (-9223372036854775808) 9223372036854775807)])] [] (.bool (.v fun _ => ltP aX aY bX bY)) [] := by
  refine RunsTo.go env Try.func45 rfl Try.call45 rfl rfl (fun _ _ => (.ite .ret (.ite .ret .ret))) (G := ((((-9223372036854775808) ≤ aX ∧ aX ≤ 9223372036854775807) ∧ ((-9223372036854775808) ≤ aY ∧ aY ≤ 9223372036854775807)) ∧ (((-9223372036854775808) ≤ bX ∧ bX ≤ 9223372036854775807) ∧ ((-9223372036854775808) ≤ bY ∧ bY ≤ 9223372036854775807))) → (True) → (((aX < bX) → ((ltP aX aY bX bY) = true)) ∧ ((bX ≤ aX) → (((aX = bX) → ((aY < bY) ↔ ((ltP aX aY bX bY) = true))) ∧ ((aX ≠ bX) → ((ltP aX aY bX bY) = false)))))) (by kernel_rfl) ?_
  intro h1 h2
  refine ⟨?_, ?_⟩
  · intro c1
    simp_all [ltP_iff]; done
  · intro c2
    refine ⟨?_, ?_⟩
    · intro c3
      simp_all [ltP_iff]; done
    · intro c4
      simp_all [ltP]; done
def c_s_pointLess (aX : Int) (aY : Int) (bX : Int) (bY : Int) : Cn Try.prog := ⟨_, _, _, _, _, s_pointLess aX aY bX bY⟩
theorem s_beforeIn (X : Int → Int) (Y : Int → Int) (n : Int) (ax : Int) (a : Int) (b : Int) (hp : ((0 : Int) ≤ a ∧ (a : Int) < n) ∧ ((0 : Int) ≤ b ∧ (b : Int) < n)) : RunsTo Try.prog 30 [(.sl 0 2 (.lit 0) (.v fun _ => n) 1048576), (.int .i64 (.v fun _ => ax) 0 1), (.int .i64 (.v fun _ => a) 0 1048576), (.int .i64 (.v fun _ => b) 0 1048576)] [some ⟨29, 2, true, (.sym (.v fun _ => n) fun e => [(.int .i64 (.v fun _ => (X (e.den))) (-9223372036854775808) 9223372036854775807), (.int .i64 (.v fun _ => (Y (e.den))) (-9223372036854775808) 9223372036854775807)])⟩] (.bool (.v fun _ => bfK X Y (decide (ax = 1)) a b)) [some ⟨29, 2, true, (.sym (.v fun _ => n) fun e => [(.int .i64 (.v fun _ => (X (e.den))) (-9223372036854775808) 9223372036854775807), (.int .i64 (.v fun _ => (Y (e.den))) (-9223372036854775808) 9223372036854775807)])⟩] := by
  refine RunsTo.go env Try.func30 rfl Try.call30 rfl rfl (fun _ _ => (.need (.need (.need (.need (.ite (.call (c_s_pointLess ((Y (a))) ((X (a))) ((Y (b))) ((X (b)))) (.ite .ret (.ite .ret .ret))) (.call (c_s_pointLess ((X (a))) ((Y (a))) ((X (b))) ((Y (b)))) (.ite .ret (.ite .ret .ret))))))))) (G := ((0 ≤ n ∧ n ≤ 1048576) ∧ ((0 ≤ ax ∧ ax ≤ 1) ∧ ((0 ≤ a ∧ a ≤ 1048576) ∧ (0 ≤ b ∧ b ≤ 1048576)))) → (∀ e7 : E, ((0 ≤ e7.den ∧ e7.den < n) → (((-9223372036854775808) ≤ ((X (e7.den))) ∧ ((X (e7.den))) ≤ 9223372036854775807) ∧ ((-9223372036854775808) ≤ ((Y (e7.den))) ∧ ((Y (e7.den))) ≤ 9223372036854775807)))) → ((((0 ≤ a) ∧ (a < n))) ∧ ((a < n) ∧ ((((0 ≤ b) ∧ (b < n))) ∧ ((b < n) ∧ (((ax = 1) → ((((((Y (a))) = ((Y (a)))) ∧ (((X (a))) = ((X (a))))) ∧ ((((Y (b))) = ((Y (b)))) ∧ (((X (b))) = ((X (b)))))) ∧ ((((ltP ((Y (a))) ((X (a))) ((Y (b))) ((X (b)))) = true) → (((bfK X Y (decide (ax = 1)) a b) = true) ∧ ((n ≤ n) ∧ (∀ e1 : E, ((0 ≤ e1.den ∧ e1.den < n) → ((((X (e1.den))) = ((X (e1.den)))) ∧ (((Y (e1.den))) = ((Y (e1.den)))))))))) ∧ (((ltP ((Y (a))) ((X (a))) ((Y (b))) ((X (b)))) = false) → (((((((Y (a))) = ((Y (b)))) ∧ (((X (a))) = ((X (b)))))) → (((a < b) ↔ ((bfK X Y (decide (ax = 1)) a b) = true)) ∧ ((n ≤ n) ∧ (∀ e2 : E, ((0 ≤ e2.den ∧ e2.den < n) → ((((X (e2.den))) = ((X (e2.den)))) ∧ (((Y (e2.den))) = ((Y (e2.den)))))))))) ∧ ((((((Y (a))) ≠ ((Y (b)))) ∨ (((X (a))) ≠ ((X (b)))))) → (((bfK X Y (decide (ax = 1)) a b) = false) ∧ ((n ≤ n) ∧ (∀ e3 : E, ((0 ≤ e3.den ∧ e3.den < n) → ((((X (e3.den))) = ((X (e3.den)))) ∧ (((Y (e3.den))) = ((Y (e3.den))))))))))))))) ∧ ((ax ≠ 1) → ((((((X (a))) = ((X (a)))) ∧ (((Y (a))) = ((Y (a))))) ∧ ((((X (b))) = ((X (b)))) ∧ (((Y (b))) = ((Y (b)))))) ∧ ((((ltP ((X (a))) ((Y (a))) ((X (b))) ((Y (b)))) = true) → (((bfK X Y (decide (ax = 1)) a b) = true) ∧ ((n ≤ n) ∧ (∀ e4 : E, ((0 ≤ e4.den ∧ e4.den < n) → ((((X (e4.den))) = ((X (e4.den)))) ∧ (((Y (e4.den))) = ((Y (e4.den)))))))))) ∧ (((ltP ((X (a))) ((Y (a))) ((X (b))) ((Y (b)))) = false) → (((((((X (a))) = ((X (b)))) ∧ (((Y (a))) = ((Y (b)))))) → (((a < b) ↔ ((bfK X Y (decide (ax = 1)) a b) = true)) ∧ ((n ≤ n) ∧ (∀ e5 : E, ((0 ≤ e5.den ∧ e5.den < n) → ((((X (e5.den))) = ((X (e5.den)))) ∧ (((Y (e5.den))) = ((Y (e5.den)))))))))) ∧ ((((((X (a))) ≠ ((X (b)))) ∨ (((Y (a))) ≠ ((Y (b)))))) → (((bfK X Y (decide (ax = 1)) a b) = false) ∧ ((n ≤ n) ∧ (∀ e6 : E, ((0 ≤ e6.den ∧ e6.den < n) → ((((X (e6.den))) = ((X (e6.den)))) ∧ (((Y (e6.den))) = ((Y (e6.den))))))))))))))))))))) (by kernel_rfl) ?_
  intro h1 h2
  refine ⟨?_, ?_, ?_, ?_, ?_, ?_⟩
  · omega
  · omega
  · omega
  · omega
  · intro c8
    refine ⟨⟨⟨rfl, rfl⟩, ⟨rfl, rfl⟩⟩, ?_, ?_⟩
    · intro c9
      refine ⟨?_, Int.le_refl _, fun _ => fun _ => ⟨rfl, rfl⟩⟩
      simp [bfK_iff, bfK_ff, kx, ky, ltP_iff, ltP_ff, *] at *; omega
    · intro c10
      refine ⟨?_, ?_⟩
      · intro c11
        refine ⟨?_, Int.le_refl _, fun _ => fun _ => ⟨rfl, rfl⟩⟩
        simp_all [bfK, kx, ky, ltP]; done
      · intro c12
        refine ⟨?_, Int.le_refl _, fun _ => fun _ => ⟨rfl, rfl⟩⟩
        simp [bfK_iff, bfK_ff, kx, ky, ltP_iff, ltP_ff, *] at *; omega
  · intro c13
    refine ⟨⟨⟨rfl, rfl⟩, ⟨rfl, rfl⟩⟩, ?_, ?_⟩
    · intro c14
      refine ⟨?_, Int.le_refl _, fun _ => fun _ => ⟨rfl, rfl⟩⟩
      simp [bfK_iff, bfK_ff, kx, ky, ltP_iff, ltP_ff, *] at *; omega
    · intro c15
      refine ⟨?_, ?_⟩
      · intro c16
        refine ⟨?_, Int.le_refl _, fun _ => fun _ => ⟨rfl, rfl⟩⟩
        simp_all [bfK, kx, ky, ltP]; done
      · intro c17
        refine ⟨?_, Int.le_refl _, fun _ => fun _ => ⟨rfl, rfl⟩⟩
        simp [bfK_iff, bfK_ff, kx, ky, ltP_iff, ltP_ff, *] at *; omega
def c_s_beforeIn (X : Int → Int) (Y : Int → Int) (n : Int) (ax : Int) (a : Int) (b : Int) : CnH Try.prog := ⟨_, _, _, _, _, _, s_beforeIn X Y n ax a b⟩
abbrev s_kdOrder_S (X : Int → Int) (Y : Int → Int) (n : Int) (Z : Int → Int) (K : Int) (r : Int) (m : Int) (ax : Int) (O : Int → Int) (k : Int) : Prop := RunsTo Try.prog 21 [(.sl 0 2 (.lit 0) (.v fun _ => n) 1048576), (.sl 1 1 (.v fun _ => r) (.v fun _ => m) 1048576), (.int .i64 (.v fun _ => ax) 0 1), (.sl 2 1 (.lit 0) (.v fun _ => k) 1048576)] [some ⟨29, 2, true, (.sym (.v fun _ => n) fun e => [(.int .i64 (.v fun _ => (X (e.den))) (-9223372036854775808) 9223372036854775807), (.int .i64 (.v fun _ => (Y (e.den))) (-9223372036854775808) 9223372036854775807)])⟩, some ⟨3, 1, true, (.sym (.v fun _ => K) fun e => [(.int .i64 (.v fun _ => (Z (e.den))) 0 1048576)])⟩, some ⟨3, 1, true, (.sym (.v fun _ => k) fun e => [(.int .i64 (.v fun _ => (O (e.den))) 0 1048576)])⟩] (.sl 3 1 (.lit 0) (.v fun _ => k + m) 1048576) [some ⟨29, 2, true, (.sym (.v fun _ => n) fun e => [(.int .i64 (.v fun _ => (X (e.den))) (-9223372036854775808) 9223372036854775807), (.int .i64 (.v fun _ => (Y (e.den))) (-9223372036854775808) 9223372036854775807)])⟩, some ⟨3, 1, true, (.sym (.v fun _ => K) fun e => [(.int .i64 (.v fun _ => (Z (e.den))) 0 1048576)])⟩, none, some ⟨3, 1, true, (.sym (.v fun _ => k + m) fun e => [(.int .i64 (.v fun _ => kdO X Y (decide (ax = 1)) Z r m O k e.den) 0 1048576)])⟩]
def c_s_kdOrder_ih {M : Nat} (ih : ∀ (X : Int → Int) (Y : Int → Int) (n : Int) (Z : Int → Int) (K : Int) (r : Int) (m : Int) (ax : Int) (O : Int → Int) (k : Int), m.toNat < M → (((0 : Int) ≤ r ∧ (r : Int) + m ≤ K) ∧ ((ax : Int) = 0 ∨ (ax : Int) = 1) ∧ ((n : Int) ≤ 20 ∧ (0 : Int) ≤ m ∧ (0 : Int) ≤ k ∧ (k : Int) + m ≤ 20) ∧ (∀ i, r ≤ i → i < r + m → 0 ≤ (Z (i)) ∧ (Z (i)) < n)) → s_kdOrder_S X Y n Z K r m ax O k) (X : Int → Int) (Y : Int → Int) (n : Int) (Z : Int → Int) (K : Int) (r : Int) (m : Int) (ax : Int) (O : Int → Int) (k : Int) : CnH Try.prog := ⟨_, _, _, _, _, (m.toNat < M) ∧ (((0 : Int) ≤ r ∧ (r : Int) + m ≤ K) ∧ ((ax : Int) = 0 ∨ (ax : Int) = 1) ∧ ((n : Int) ≤ 20 ∧ (0 : Int) ≤ m ∧ (0 : Int) ≤ k ∧ (k : Int) + m ≤ 20) ∧ (∀ i, r ≤ i → i < r + m → 0 ≤ (Z (i)) ∧ (Z (i)) < n)), fun h => ih X Y n Z K r m ax O k h.1 h.2⟩
theorem s_kdOrder_st (X : Int → Int) (Y : Int → Int) (n : Int) (Z : Int → Int) (K : Int) (r : Int) (m : Int) (ax : Int) (O : Int → Int) (k : Int) (hp : ((0 : Int) ≤ r ∧ (r : Int) + m ≤ K) ∧ ((ax : Int) = 0 ∨ (ax : Int) = 1) ∧ ((n : Int) ≤ 20 ∧ (0 : Int) ≤ m ∧ (0 : Int) ≤ k ∧ (k : Int) + m ≤ 20) ∧ (∀ i, r ≤ i → i < r + m → 0 ≤ (Z (i)) ∧ (Z (i)) < n)) (M : Nat) (hM : M = m.toNat) (ih : ∀ (X : Int → Int) (Y : Int → Int) (n : Int) (Z : Int → Int) (K : Int) (r : Int) (m : Int) (ax : Int) (O : Int → Int) (k : Int), m.toNat < M → (((0 : Int) ≤ r ∧ (r : Int) + m ≤ K) ∧ ((ax : Int) = 0 ∨ (ax : Int) = 1) ∧ ((n : Int) ≤ 20 ∧ (0 : Int) ≤ m ∧ (0 : Int) ≤ k ∧ (k : Int) + m ≤ 20) ∧ (∀ i, r ≤ i → i < r + m → 0 ≤ (Z (i)) ∧ (Z (i)) < n)) → s_kdOrder_S X Y n Z K r m ax O k) : s_kdOrder_S X Y n Z K r m ax O k := by
  refine RunsTo.goK env Try.func21 rfl Try.call21 rfl rfl 2 (Nat.le_of_ble_eq_true rfl) rfl (fun _ _ => (.ite .ret (.loop [] [0, 1, 2, 3] ((Int → Int) × Int) (fun x4 => ⟨spl 89 0 [(0, (.sl 0 2 (.lit 0) (.v fun _ => n) 1048576)), (1, (.sl 1 1 (.v fun _ => r) (.v fun _ => m) 1048576)), (2, (.int .i64 (.v fun _ => ax) 0 1)), (3, (.sl 2 1 (.lit 0) (.v fun _ => k) 1048576)), (8, (.raw (.slice none 0 0))), (9, (.sl 3 1 (.lit 0) (.v fun _ => (x4.2)) 1048576)), (10, (.int .i64 (.v fun _ => x4.2) 0 1048576))], [some ⟨29, 2, true, (.sym (.v fun _ => n) fun e => [(.int .i64 (.v fun _ => (X (e.den))) (-9223372036854775808) 9223372036854775807), (.int .i64 (.v fun _ => (Y (e.den))) (-9223372036854775808) 9223372036854775807)])⟩, some ⟨3, 1, true, (.sym (.v fun _ => K) fun e => [(.int .i64 (.v fun _ => (Z (e.den))) 0 1048576)])⟩, some ⟨3, 1, true, (.sym (.v fun _ => k) fun e => [(.int .i64 (.v fun _ => (O (e.den))) 0 1048576)])⟩, some ⟨3, 1, true, (.sym (.v fun _ => (x4.2)) fun e => [(.int .i64 (.v fun _ => (x4.1 (e.den))) 0 1048576)])⟩], 2⟩) (fun x4 => KS X Y (decide (ax = 1)) Z r x4.1 x4.2 ∧ (0 ≤ x4.2 ∧ x4.2 ≤ m)) (fun x4 => (m - x4.2).toNat) fun x4 => (.ite (.loop [] [0, 1, 2, 3] (Int) (fun x9 => ⟨spl 89 0 [(0, (.sl 0 2 (.lit 0) (.v fun _ => n) 1048576)), (1, (.sl 1 1 (.v fun _ => r) (.v fun _ => m) 1048576)), (2, (.int .i64 (.v fun _ => ax) 0 1)), (3, (.sl 2 1 (.lit 0) (.v fun _ => k) 1048576)), (8, (.raw (.slice none 0 0))), (9, (.sl 3 1 (.lit 0) (.v fun _ => (x4.2)) 1048576)), (10, (.int .i64 (.v fun _ => x4.2) 0 1048576)), (11, (.int .i64 (.v fun _ => x9) 0 1048576)), (19, (.int .i64 (.v fun _ => x4.2) 0 1048576)), (20, (.sl 1 1 (.v fun _ => r) (.v fun _ => m) 1048576)), (21, (.int .i64 (.v fun _ => m) 0 1048576)), (22, (.bool (.lt (.v fun _ => x4.2) (.v fun _ => m)))), (25, (.sl 3 1 (.lit 0) (.v fun _ => (x4.2)) 1048576)), (26, (.int .i64 (.v fun _ => (x4.2)) 0 1048576))], [some ⟨29, 2, true, (.sym (.v fun _ => n) fun e => [(.int .i64 (.v fun _ => (X (e.den))) (-9223372036854775808) 9223372036854775807), (.int .i64 (.v fun _ => (Y (e.den))) (-9223372036854775808) 9223372036854775807)])⟩, some ⟨3, 1, true, (.sym (.v fun _ => K) fun e => [(.int .i64 (.v fun _ => (Z (e.den))) 0 1048576)])⟩, some ⟨3, 1, true, (.sym (.v fun _ => k) fun e => [(.int .i64 (.v fun _ => (O (e.den))) 0 1048576)])⟩, some ⟨3, 1, true, (.sym (.v fun _ => (x4.2)) fun e => [(.int .i64 (.v fun _ => (x4.1 (e.den))) 0 1048576)])⟩], 2⟩) (fun x9 => (0 ≤ x9 ∧ x9 ≤ x4.2) ∧ ∀ s, x9 ≤ s → s < x4.2 → bfK X Y (decide (ax = 1)) ((Z (r + x4.2))) ((x4.1 (s))) = true) (fun x9 => x9.toNat) fun x9 => (.ite (.need (.need (.need (.need (.callH (c_s_beforeIn X Y n ax ((Z (r + x4.2))) ((x4.1 (x9 - 1)))) (.ite (.next [0, 1, 2, 3]) (.out (.need (.need (.need (.need (.need (.need (.need (.next [0, 1, 2, 4]))))))))))))))) (.out (.need (.need (.need (.need (.need (.need (.need (.next [0, 1, 2, 4]))))))))))) (.out (.need (.need (.need (.need (.callH (c_s_kdOrder_ih ih X Y n x4.1 (x4.2) 0 (Int.tdiv (x4.2) 2) (1 - ax) ((fun κ => if κ = k then ((x4.1 (Int.tdiv (x4.2) 2))) else ((O (κ))))) (k + 1)) (.need (.callH (c_s_kdOrder_ih ih X Y n x4.1 (x4.2) ((Int.tdiv (x4.2) 2) + 1) ((x4.2) - ((Int.tdiv (x4.2) 2) + 1)) (1 - ax) ((fun κ => kdO X Y (decide ((1 - ax) = 1)) x4.1 0 (Int.tdiv (x4.2) 2) ((fun κ => if κ = k then ((x4.1 (Int.tdiv (x4.2) 2))) else ((O (κ))))) (k + 1) (κ))) ((k + 1) + (Int.tdiv (x4.2) 2))) .ret)))))))))))) (G := ((0 ≤ n ∧ n ≤ 1048576) ∧ ((0 ≤ m ∧ m ≤ 1048576) ∧ ((0 ≤ ax ∧ ax ≤ 1) ∧ (0 ≤ k ∧ k ≤ 1048576)))) → ((∀ e43 : E, ((0 ≤ e43.den ∧ e43.den < n) → (((-9223372036854775808) ≤ ((X (e43.den))) ∧ ((X (e43.den))) ≤ 9223372036854775807) ∧ ((-9223372036854775808) ≤ ((Y (e43.den))) ∧ ((Y (e43.den))) ≤ 9223372036854775807)))) ∧ ((∀ e42 : E, ((0 ≤ e42.den ∧ e42.den < K) → (0 ≤ ((Z (e42.den))) ∧ ((Z (e42.den))) ≤ 1048576))) ∧ (∀ e41 : E, ((0 ≤ e41.den ∧ e41.den < k) → (0 ≤ ((O (e41.den))) ∧ ((O (e41.den))) ≤ 1048576))))) → (((m = 0) → ((k = (k + m)) ∧ (((n ≤ n) ∧ (∀ e3 : E, ((0 ≤ e3.den ∧ e3.den < n) → ((((X (e3.den))) = ((X (e3.den)))) ∧ (((Y (e3.den))) = ((Y (e3.den)))))))) ∧ (((K ≤ K) ∧ (∀ e2 : E, ((0 ≤ e2.den ∧ e2.den < K) → (((Z (e2.den))) = ((Z (e2.den))))))) ∧ (((k + m) ≤ k) ∧ (∀ e1 : E, ((0 ≤ e1.den ∧ e1.den < (k + m)) → (((O (e1.den))) = (kdO X Y (decide (ax = 1)) Z r m O k e1.den))))))))) ∧ ((m ≠ 0) → ((∃ y5 : (Int → Int) × Int, ((KS X Y (decide (ax = 1)) Z r y5.1 y5.2 ∧ (0 ≤ y5.2 ∧ y5.2 ≤ m)) ∧ (((n = n) ∧ (((r = r) ∧ (m = m)) ∧ ((ax = ax) ∧ ((k = k) ∧ ((((.slice none 0 0) : Value) = (.slice none 0 0)) ∧ (((0 : Int) = (y5.2)) ∧ ((0 : Int) = y5.2))))))) ∧ (((n ≤ n) ∧ (∀ e8 : E, ((0 ≤ e8.den ∧ e8.den < n) → ((((X (e8.den))) = ((X (e8.den)))) ∧ (((Y (e8.den))) = ((Y (e8.den)))))))) ∧ (((K ≤ K) ∧ (∀ e7 : E, ((0 ≤ e7.den ∧ e7.den < K) → (((Z (e7.den))) = ((Z (e7.den))))))) ∧ (((k ≤ k) ∧ (∀ e6 : E, ((0 ≤ e6.den ∧ e6.den < k) → (((O (e6.den))) = ((O (e6.den))))))) ∧ ((y5.2) = 0))))))) ∧ (∀ x4 : (Int → Int) × Int, ((KS X Y (decide (ax = 1)) Z r x4.1 x4.2 ∧ (0 ≤ x4.2 ∧ x4.2 ≤ m)) → (((x4.2 < m) → ((∃ y10 : Int, (((0 ≤ y10 ∧ y10 ≤ x4.2) ∧ ∀ s, y10 ≤ s → s < x4.2 → bfK X Y (decide (ax = 1)) ((Z (r + x4.2))) ((x4.1 (s))) = true) ∧ (((n = n) ∧ (((r = r) ∧ (m = m)) ∧ ((ax = ax) ∧ ((k = k) ∧ ((((.slice none 0 0) : Value) = (.slice none 0 0)) ∧ (((x4.2) = (x4.2)) ∧ ((x4.2 = x4.2) ∧ (((x4.2) = y10) ∧ ((x4.2 = x4.2) ∧ (((r = r) ∧ (m = m)) ∧ ((m = m) ∧ (((x4.2 < m) ↔ (x4.2 < m)) ∧ (((x4.2) = (x4.2)) ∧ ((x4.2) = (x4.2))))))))))))))) ∧ (((n ≤ n) ∧ (∀ e14 : E, ((0 ≤ e14.den ∧ e14.den < n) → ((((X (e14.den))) = ((X (e14.den)))) ∧ (((Y (e14.den))) = ((Y (e14.den)))))))) ∧ (((K ≤ K) ∧ (∀ e13 : E, ((0 ≤ e13.den ∧ e13.den < K) → (((Z (e13.den))) = ((Z (e13.den))))))) ∧ (((k ≤ k) ∧ (∀ e12 : E, ((0 ≤ e12.den ∧ e12.den < k) → (((O (e12.den))) = ((O (e12.den))))))) ∧ (((x4.2) ≤ (x4.2)) ∧ (∀ e11 : E, ((0 ≤ e11.den ∧ e11.den < (x4.2)) → (((x4.1 (e11.den))) = ((x4.1 (e11.den))))))))))))) ∧ (∀ x9 : Int, (((0 ≤ x9 ∧ x9 ≤ x4.2) ∧ ∀ s, x9 ≤ s → s < x4.2 → bfK X Y (decide (ax = 1)) ((Z (r + x4.2))) ((x4.1 (s))) = true) → (((0 < x9) → ((((0 ≤ x4.2) ∧ (x4.2 < m))) ∧ (((r + x4.2) < K) ∧ ((((0 ≤ (x9 - 1)) ∧ ((x9 - 1) < (x4.2)))) ∧ (((x9 - 1) < (x4.2)) ∧ ((((0 : Int) ≤ ((Z (r + x4.2))) ∧ (((Z (r + x4.2))) : Int) < n) ∧ ((0 : Int) ≤ ((x4.1 (x9 - 1))) ∧ (((x4.1 (x9 - 1))) : Int) < n)) ∧ (((n = n) ∧ ((ax = ax) ∧ ((((Z (r + x4.2))) = ((Z (r + x4.2)))) ∧ (((x4.1 (x9 - 1))) = ((x4.1 (x9 - 1))))))) ∧ (((n ≤ n) ∧ (∀ e15 : E, ((0 ≤ e15.den ∧ e15.den < n) → ((((X (e15.den))) = ((X (e15.den)))) ∧ (((Y (e15.den))) = ((Y (e15.den)))))))) ∧ ((((bfK X Y (decide (ax = 1)) ((Z (r + x4.2))) ((x4.1 (x9 - 1)))) = true) → (∃ y16 : Int, (((0 ≤ y16 ∧ y16 ≤ x4.2) ∧ ∀ s, y16 ≤ s → s < x4.2 → bfK X Y (decide (ax = 1)) ((Z (r + x4.2))) ((x4.1 (s))) = true) ∧ ((((n = n) ∧ (((r = r) ∧ (m = m)) ∧ ((ax = ax) ∧ ((k = k) ∧ ((((.slice none 0 0) : Value) = (.slice none 0 0)) ∧ (((x4.2) = (x4.2)) ∧ ((x4.2 = x4.2) ∧ ((((x9 - 1) = y16) ∧ (((-1) ≤ (x9 - 1) ∧ (x9 - 1) ≤ 1048575) → (0 ≤ y16 ∧ y16 ≤ 1048576))) ∧ ((x4.2 = x4.2) ∧ (((r = r) ∧ (m = m)) ∧ ((m = m) ∧ (((x4.2 < m) ↔ (x4.2 < m)) ∧ (((x4.2) = (x4.2)) ∧ ((x4.2) = (x4.2))))))))))))))) ∧ (((n ≤ n) ∧ (∀ e20 : E, ((0 ≤ e20.den ∧ e20.den < n) → ((((X (e20.den))) = ((X (e20.den)))) ∧ (((Y (e20.den))) = ((Y (e20.den)))))))) ∧ (((K ≤ K) ∧ (∀ e19 : E, ((0 ≤ e19.den ∧ e19.den < K) → (((Z (e19.den))) = ((Z (e19.den))))))) ∧ (((k ≤ k) ∧ (∀ e18 : E, ((0 ≤ e18.den ∧ e18.den < k) → (((O (e18.den))) = ((O (e18.den))))))) ∧ (((x4.2) ≤ (x4.2)) ∧ (∀ e17 : E, ((0 ≤ e17.den ∧ e17.den < (x4.2)) → (((x4.1 (e17.den))) = ((x4.1 (e17.den))))))))))) ∧ (y16.toNat < x9.toNat))))) ∧ (((bfK X Y (decide (ax = 1)) ((Z (r + x4.2))) ((x4.1 (x9 - 1)))) = false) → ((((0 ≤ x9) ∧ (x9 ≤ (x4.2)))) ∧ (((x9 ≤ (x4.2)) ∧ ((oneF (.v fun _ => (x4.2)) (fun e => [(.int .i64 (.v fun _ => (x4.1 (e.den))) 0 1048576)])) = true)) ∧ ((((0 ≤ x4.2) ∧ (x4.2 < m))) ∧ (((r + x4.2) < K) ∧ ((x9 = x9) ∧ ((((0 ≤ x9) ∧ (x9 ≤ (x4.2)))) ∧ ((((x9 + 1) = (x9 + 1)) ∧ (((x9 + ((x4.2) - x9)) ≤ (x4.2)) ∧ ((oneF (.v fun _ => (x4.2)) (fun e => [(.int .i64 (.v fun _ => (x4.1 (e.den))) 0 1048576)])) = true))) ∧ (∃ y21 : (Int → Int) × Int, ((KS X Y (decide (ax = 1)) Z r y21.1 y21.2 ∧ (0 ≤ y21.2 ∧ y21.2 ≤ m)) ∧ ((((n = n) ∧ (((r = r) ∧ (m = m)) ∧ ((ax = ax) ∧ ((k = k) ∧ ((((.slice none 0 0) : Value) = (.slice none 0 0)) ∧ (((((x9 + 1) + ((x4.2) - x9)) = (y21.2)) ∧ ((((x9 + 1) + ((x4.2) - x9)) ≤ 2097153) → ((y21.2) ≤ 1048576))) ∧ (((x4.2 + 1) = y21.2) ∧ ((1 ≤ (x4.2 + 1) ∧ (x4.2 + 1) ≤ 1048577) → (0 ≤ y21.2 ∧ y21.2 ≤ 1048576))))))))) ∧ (((n ≤ n) ∧ (∀ e25 : E, ((0 ≤ e25.den ∧ e25.den < n) → ((((X (e25.den))) = ((X (e25.den)))) ∧ (((Y (e25.den))) = ((Y (e25.den)))))))) ∧ (((K ≤ K) ∧ (∀ e24 : E, ((0 ≤ e24.den ∧ e24.den < K) → (((Z (e24.den))) = ((Z (e24.den))))))) ∧ (((k ≤ k) ∧ (∀ e23 : E, ((0 ≤ e23.den ∧ e23.den < k) → (((O (e23.den))) = ((O (e23.den))))))) ∧ (((y21.2) ≤ ((x9 + 1) + ((x4.2) - x9))) ∧ (∀ e22 : E, ((0 ≤ e22.den ∧ e22.den < (y21.2)) → ((if decide (e22.den < (x9 + 1)) = true then (if decide (e22.den < x9) = true then ((x4.1 (e22.den))) else ((Z (r + x4.2)))) else ((x4.1 ((e22.den - (x9 + 1)) + x9)))) = ((y21.1 (e22.den))))))))))) ∧ ((m - y21.2).toNat < (m - x4.2).toNat))))))))))))))))))))) ∧ ((x9 ≤ 0) → ((((0 ≤ x9) ∧ (x9 ≤ (x4.2)))) ∧ (((x9 ≤ (x4.2)) ∧ ((oneF (.v fun _ => (x4.2)) (fun e => [(.int .i64 (.v fun _ => (x4.1 (e.den))) 0 1048576)])) = true)) ∧ ((((0 ≤ x4.2) ∧ (x4.2 < m))) ∧ (((r + x4.2) < K) ∧ ((x9 = x9) ∧ ((((0 ≤ x9) ∧ (x9 ≤ (x4.2)))) ∧ ((((x9 + 1) = (x9 + 1)) ∧ (((x9 + ((x4.2) - x9)) ≤ (x4.2)) ∧ ((oneF (.v fun _ => (x4.2)) (fun e => [(.int .i64 (.v fun _ => (x4.1 (e.den))) 0 1048576)])) = true))) ∧ (∃ y26 : (Int → Int) × Int, ((KS X Y (decide (ax = 1)) Z r y26.1 y26.2 ∧ (0 ≤ y26.2 ∧ y26.2 ≤ m)) ∧ ((((n = n) ∧ (((r = r) ∧ (m = m)) ∧ ((ax = ax) ∧ ((k = k) ∧ ((((.slice none 0 0) : Value) = (.slice none 0 0)) ∧ (((((x9 + 1) + ((x4.2) - x9)) = (y26.2)) ∧ ((((x9 + 1) + ((x4.2) - x9)) ≤ 2097153) → ((y26.2) ≤ 1048576))) ∧ (((x4.2 + 1) = y26.2) ∧ ((1 ≤ (x4.2 + 1) ∧ (x4.2 + 1) ≤ 1048577) → (0 ≤ y26.2 ∧ y26.2 ≤ 1048576))))))))) ∧ (((n ≤ n) ∧ (∀ e30 : E, ((0 ≤ e30.den ∧ e30.den < n) → ((((X (e30.den))) = ((X (e30.den)))) ∧ (((Y (e30.den))) = ((Y (e30.den)))))))) ∧ (((K ≤ K) ∧ (∀ e29 : E, ((0 ≤ e29.den ∧ e29.den < K) → (((Z (e29.den))) = ((Z (e29.den))))))) ∧ (((k ≤ k) ∧ (∀ e28 : E, ((0 ≤ e28.den ∧ e28.den < k) → (((O (e28.den))) = ((O (e28.den))))))) ∧ (((y26.2) ≤ ((x9 + 1) + ((x4.2) - x9))) ∧ (∀ e27 : E, ((0 ≤ e27.den ∧ e27.den < (y26.2)) → ((if decide (e27.den < (x9 + 1)) = true then (if decide (e27.den < x9) = true then ((x4.1 (e27.den))) else ((Z (r + x4.2)))) else ((x4.1 ((e27.den - (x9 + 1)) + x9)))) = ((y26.1 (e27.den))))))))))) ∧ ((m - y26.2).toNat < (m - x4.2).toNat))))))))))))))))) ∧ ((m ≤ x4.2) → ((((0 ≤ (Int.tdiv (x4.2) 2)) ∧ ((Int.tdiv (x4.2) 2) < (x4.2)))) ∧ (((Int.tdiv (x4.2) 2) < (x4.2)) ∧ ((k = k) ∧ ((((0 ≤ (Int.tdiv (x4.2) 2)) ∧ ((Int.tdiv (x4.2) 2) ≤ (x4.2)))) ∧ ((((Int.tdiv (x4.2) 2).toNat < M) ∧ (((0 : Int) ≤ 0 ∧ (0 : Int) + (Int.tdiv (x4.2) 2) ≤ (x4.2)) ∧ (((1 - ax) : Int) = 0 ∨ ((1 - ax) : Int) = 1) ∧ ((n : Int) ≤ 20 ∧ (0 : Int) ≤ (Int.tdiv (x4.2) 2) ∧ (0 : Int) ≤ (k + 1) ∧ ((k + 1) : Int) + (Int.tdiv (x4.2) 2) ≤ 20) ∧ (∀ i, 0 ≤ i → i < 0 + (Int.tdiv (x4.2) 2) → 0 ≤ ((x4.1 (i))) ∧ ((x4.1 (i))) < n))) ∧ (((n = n) ∧ ((((0 : Int) = 0) ∧ ((Int.tdiv (x4.2) 2) = (Int.tdiv (x4.2) 2))) ∧ (((1 - ax) = (1 - ax)) ∧ (((k + 1) = (k + 1)) ∧ (((k + 1) ≤ 1048577) → ((k + 1) ≤ 1048576)))))) ∧ ((((n ≤ n) ∧ (∀ e34 : E, ((0 ≤ e34.den ∧ e34.den < n) → ((((X (e34.den))) = ((X (e34.den)))) ∧ (((Y (e34.den))) = ((Y (e34.den)))))))) ∧ ((((x4.2) ≤ (x4.2)) ∧ (∀ e33 : E, ((0 ≤ e33.den ∧ e33.den < (x4.2)) → (((x4.1 (e33.den))) = ((x4.1 (e33.den))))))) ∧ (((0 : Int) ≤ k ∧ (k + 1) = k + 1) ∧ (((k ≤ k) ∧ (∀ e32 : E, ((0 ≤ e32.den ∧ e32.den < k) → (((O (e32.den))) = ((if (e32.den) = k then ((x4.1 (Int.tdiv (x4.2) 2))) else ((O ((e32.den)))))))))) ∧ (∀ e31 : E, ((e31.den = k) → (((x4.1 (Int.tdiv (x4.2) 2))) = ((if (e31.den) = k then ((x4.1 (Int.tdiv (x4.2) 2))) else ((O ((e31.den))))))))))))) ∧ ((((0 ≤ ((Int.tdiv (x4.2) 2) + 1)) ∧ (((Int.tdiv (x4.2) 2) + 1) ≤ (x4.2)))) ∧ (((((x4.2) - ((Int.tdiv (x4.2) 2) + 1)).toNat < M) ∧ (((0 : Int) ≤ ((Int.tdiv (x4.2) 2) + 1) ∧ (((Int.tdiv (x4.2) 2) + 1) : Int) + ((x4.2) - ((Int.tdiv (x4.2) 2) + 1)) ≤ (x4.2)) ∧ (((1 - ax) : Int) = 0 ∨ ((1 - ax) : Int) = 1) ∧ ((n : Int) ≤ 20 ∧ (0 : Int) ≤ ((x4.2) - ((Int.tdiv (x4.2) 2) + 1)) ∧ (0 : Int) ≤ ((k + 1) + (Int.tdiv (x4.2) 2)) ∧ (((k + 1) + (Int.tdiv (x4.2) 2)) : Int) + ((x4.2) - ((Int.tdiv (x4.2) 2) + 1)) ≤ 20) ∧ (∀ i, ((Int.tdiv (x4.2) 2) + 1) ≤ i → i < ((Int.tdiv (x4.2) 2) + 1) + ((x4.2) - ((Int.tdiv (x4.2) 2) + 1)) → 0 ≤ ((x4.1 (i))) ∧ ((x4.1 (i))) < n))) ∧ (((n = n) ∧ (((((Int.tdiv (x4.2) 2) + 1) = ((Int.tdiv (x4.2) 2) + 1)) ∧ (((x4.2) - ((Int.tdiv (x4.2) 2) + 1)) = (((x4.2) - ((Int.tdiv (x4.2) 2) + 1))))) ∧ (((1 - ax) = (1 - ax)) ∧ (((k + 1) + (Int.tdiv (x4.2) 2)) = ((k + 1) + (Int.tdiv (x4.2) 2)))))) ∧ ((((n ≤ n) ∧ (∀ e37 : E, ((0 ≤ e37.den ∧ e37.den < n) → ((((X (e37.den))) = ((X (e37.den)))) ∧ (((Y (e37.den))) = ((Y (e37.den)))))))) ∧ ((((x4.2) ≤ (x4.2)) ∧ (∀ e36 : E, ((0 ≤ e36.den ∧ e36.den < (x4.2)) → (((x4.1 (e36.den))) = ((x4.1 (e36.den))))))) ∧ ((((k + 1) + (Int.tdiv (x4.2) 2)) ≤ ((k + 1) + (Int.tdiv (x4.2) 2))) ∧ (∀ e35 : E, ((0 ≤ e35.den ∧ e35.den < ((k + 1) + (Int.tdiv (x4.2) 2))) → ((kdO X Y (decide ((1 - ax) = 1)) x4.1 0 (Int.tdiv (x4.2) 2) ((fun κ => if κ = k then ((x4.1 (Int.tdiv (x4.2) 2))) else ((O (κ))))) (k + 1) (e35.den)) = ((kdO X Y (decide ((1 - ax) = 1)) x4.1 0 (Int.tdiv (x4.2) 2) ((fun κ => if κ = k then ((x4.1 (Int.tdiv (x4.2) 2))) else ((O (κ))))) (k + 1) ((e35.den)))))))))) ∧ (((((k + 1) + (Int.tdiv (x4.2) 2)) + ((x4.2) - ((Int.tdiv (x4.2) 2) + 1))) = (k + m)) ∧ (((n ≤ n) ∧ (∀ e40 : E, ((0 ≤ e40.den ∧ e40.den < n) → ((((X (e40.den))) = ((X (e40.den)))) ∧ (((Y (e40.den))) = ((Y (e40.den)))))))) ∧ (((K ≤ K) ∧ (∀ e39 : E, ((0 ≤ e39.den ∧ e39.den < K) → (((Z (e39.den))) = ((Z (e39.den))))))) ∧ (((k + m) ≤ (((k + 1) + (Int.tdiv (x4.2) 2)) + ((x4.2) - ((Int.tdiv (x4.2) 2) + 1)))) ∧ (∀ e38 : E, ((0 ≤ e38.den ∧ e38.den < (k + m)) → ((kdO X Y (decide ((1 - ax) = 1)) x4.1 ((Int.tdiv (x4.2) 2) + 1) ((x4.2) - ((Int.tdiv (x4.2) 2) + 1)) ((fun κ => kdO X Y (decide ((1 - ax) = 1)) x4.1 0 (Int.tdiv (x4.2) 2) ((fun κ => if κ = k then ((x4.1 (Int.tdiv (x4.2) 2))) else ((O (κ))))) (k + 1) (κ))) ((k + 1) + (Int.tdiv (x4.2) 2)) (e38.den)) = (kdO X Y (decide (ax = 1)) Z r m O k e38.den))))))))))))))))))))))))))) (by kernel_rfl) ?_
  intro h1 h2
  refine ⟨?_, ?_⟩
  · intro c44
    refine ⟨?_, ⟨Int.le_refl _, fun _ => fun _ => ⟨rfl, rfl⟩⟩, ⟨Int.le_refl _, fun _ => fun _ => rfl⟩, ?_, ?_⟩
    · omega
    · omega
    · intro e1
      intro c45
      exact (kdO_nil (by omega) (by omega)).symm
  · intro c46
    refine ⟨?_, ?_⟩
    · refine ⟨((fun κ => 0), 0), ?_⟩
      try dsimp only
      refine ⟨?_, ?_, ⟨Int.le_refl _, fun _ => fun _ => ⟨rfl, rfl⟩⟩, ⟨Int.le_refl _, fun _ => fun _ => rfl⟩, ⟨Int.le_refl _, fun _ => fun _ => rfl⟩, ?_⟩
      · exact ⟨KS_zero _ _ _ _ _ _, by omega, by omega⟩
      · refine ⟨rfl, ⟨rfl, rfl⟩, rfl, rfl, rfl, ?_, ?_⟩
        · rfl
        · rfl
      · rfl
    · rintro ⟨W, i⟩
      dsimp only
      intro I1
      refine ⟨?_, ?_⟩
      · intro c47
        refine ⟨?_, ?_⟩
        · refine ⟨(i), ?_⟩
          try dsimp only
          refine ⟨?_, ?_, ⟨Int.le_refl _, fun _ => fun _ => ⟨rfl, rfl⟩⟩, ⟨Int.le_refl _, fun _ => fun _ => rfl⟩, ⟨Int.le_refl _, fun _ => fun _ => rfl⟩, Int.le_refl _, fun _ => fun _ => rfl⟩
          · exact ⟨by omega, fun s a b => by omega⟩
          · refine ⟨rfl, ⟨rfl, rfl⟩, rfl, rfl, rfl, rfl, rfl, ?_, rfl, ⟨rfl, rfl⟩, rfl, Iff.rfl, rfl, rfl⟩
            rfl
        · intro j
          intro I2
          refine ⟨?_, ?_⟩
          · intro c48
            refine ⟨?_, ?_, ?_, ?_, ?_, ⟨rfl, ⟨rfl, ⟨rfl, rfl⟩⟩⟩, ⟨Int.le_refl _, fun _ => fun _ => ⟨rfl, rfl⟩⟩, ?_, ?_⟩
            · omega
            · omega
            · omega
            · omega
            · exact ⟨hp.2.2.2 _ (by omega) (by omega), KS_bd I1.1 (fun q a b => hp.2.2.2 q (by omega) (by omega)) _ (by omega) (by omega)⟩
            · intro c49
              refine ⟨j - 1, ?_⟩
              try dsimp only
              refine ⟨?_, ?_, ?_⟩
              · exact ⟨by omega, fun s a b => by by_cases e : s = j - 1; (subst e; assumption); exact I2.2 s (by omega) b⟩
              · refine ⟨?_, ⟨Int.le_refl _, fun _ => fun _ => ⟨rfl, rfl⟩⟩, ⟨Int.le_refl _, fun _ => fun _ => rfl⟩, ⟨Int.le_refl _, fun _ => fun _ => rfl⟩, Int.le_refl _, fun _ => fun _ => rfl⟩
                refine ⟨rfl, ⟨rfl, rfl⟩, rfl, rfl, rfl, rfl, rfl, ?_, rfl, ⟨rfl, rfl⟩, rfl, Iff.rfl, rfl, rfl⟩
                refine ⟨?_, ?_⟩
                · rfl
                · intro c50
                  omega
              · omega
            · intro c51
              refine ⟨?_, ?_, ?_, ?_, ?_, ?_, ?_, ?_⟩
              · omega
              · refine ⟨?_, ?_⟩
                · omega
                  -- 21: (oneF (.v fun _ => (x4.2)) (fun e => [(.int .i64 (.v fun _ => (x4.1 (e.den))) 0 1048576)])) = true
                · exact oneF_of (fun _ => rfl)
              · omega
              · omega
              · rfl
              · omega
              · refine ⟨?_, ?_, ?_⟩
                · rfl
                · omega
                  -- 28: (oneF (.v fun _ => (x4.2)) (fun e => [(.int .i64 (.v fun _ => (x4.1 (e.den))) 0 1048576)])) = true
                · exact oneF_of (fun _ => rfl)
              · refine ⟨((fun κ => if decide (κ < (j + 1)) = true then (if decide (κ < j) = true then ((W (κ))) else ((Z (r + i)))) else ((W ((κ - (j + 1)) + j)))), i + 1), ?_⟩
                try dsimp only
                refine ⟨?_, ?_, ?_⟩
                · exact ⟨KS_ins I1.1 (by omega) (by omega) I2.2 (fun h => by first | assumption | (exfalso; omega)) (fun s a b => ins_cat), by omega, by omega⟩
                · refine ⟨?_, ⟨Int.le_refl _, fun _ => fun _ => ⟨rfl, rfl⟩⟩, ⟨Int.le_refl _, fun _ => fun _ => rfl⟩, ⟨Int.le_refl _, fun _ => fun _ => rfl⟩, ?_, ?_⟩
                  · refine ⟨rfl, ⟨rfl, rfl⟩, rfl, rfl, rfl, ?_, ?_, ?_⟩
                    · refine ⟨?_, ?_⟩
                      · omega
                      · intro c52
                        omega
                    · rfl
                    · intro c53
                      omega
                  · omega
                  · intro e22
                    intro c54
                    rfl
                · omega
          · intro c55
            refine ⟨?_, ?_, ?_, ?_, ?_, ?_, ?_, ?_⟩
            · omega
            · refine ⟨?_, ?_⟩
              · omega
                -- 39: (oneF (.v fun _ => (x4.2)) (fun e => [(.int .i64 (.v fun _ => (x4.1 (e.den))) 0 1048576)])) = true
              · exact oneF_of (fun _ => rfl)
            · omega
            · omega
            · rfl
            · omega
            · refine ⟨?_, ?_, ?_⟩
              · rfl
              · omega
                -- 46: (oneF (.v fun _ => (x4.2)) (fun e => [(.int .i64 (.v fun _ => (x4.1 (e.den))) 0 1048576)])) = true
              · exact oneF_of (fun _ => rfl)
            · refine ⟨((fun κ => if decide (κ < (j + 1)) = true then (if decide (κ < j) = true then ((W (κ))) else ((Z (r + i)))) else ((W ((κ - (j + 1)) + j)))), i + 1), ?_⟩
              try dsimp only
              refine ⟨?_, ?_, ?_⟩
              · exact ⟨KS_ins I1.1 (by omega) (by omega) I2.2 (fun h => by first | assumption | (exfalso; omega)) (fun s a b => ins_cat), by omega, by omega⟩
              · refine ⟨?_, ⟨Int.le_refl _, fun _ => fun _ => ⟨rfl, rfl⟩⟩, ⟨Int.le_refl _, fun _ => fun _ => rfl⟩, ⟨Int.le_refl _, fun _ => fun _ => rfl⟩, ?_, ?_⟩
                · refine ⟨rfl, ⟨rfl, rfl⟩, rfl, rfl, rfl, ?_, ?_, ?_⟩
                  · refine ⟨?_, ?_⟩
                    · omega
                    · intro c56
                      omega
                  · rfl
                  · intro c57
                    omega
                · omega
                · intro e27
                  intro c58
                  rfl
              · omega
      · intro c59
        refine ⟨?_, ?_, ?_, ?_, ?_, ?_, ?_, ?_, ?_, ⟨rfl, ⟨⟨rfl, rfl⟩, ⟨rfl, rfl⟩⟩⟩, ⟨⟨Int.le_refl _, fun _ => fun _ => ⟨rfl, rfl⟩⟩, ⟨⟨Int.le_refl _, fun _ => fun _ => rfl⟩, ⟨Int.le_refl _, fun _ => fun _ => rfl⟩⟩⟩, ?_, ⟨Int.le_refl _, fun _ => fun _ => ⟨rfl, rfl⟩⟩, ⟨Int.le_refl _, fun _ => fun _ => rfl⟩, ?_, ?_⟩
        · have ht := Int.tdiv_eq_ediv_of_nonneg (a := i) (b := 2) (by omega); omega
        · have ht := Int.tdiv_eq_ediv_of_nonneg (a := i) (b := 2) (by omega); omega
        · rfl
        · have ht := Int.tdiv_eq_ediv_of_nonneg (a := i) (b := 2) (by omega); omega
        · have ht := Int.tdiv_eq_ediv_of_nonneg (a := i) (b := 2) (by omega); refine ⟨by omega, ⟨by omega, by omega⟩, by omega, by omega, fun q a b => KS_bd I1.1 (fun q a b => hp.2.2.2 q (by omega) (by omega)) q (by omega) (by omega)⟩
        · refine ⟨rfl, ⟨rfl, rfl⟩, rfl, rfl, ?_⟩
          intro c60
          omega
        · refine ⟨⟨Int.le_refl _, fun _ => fun _ => ⟨rfl, rfl⟩⟩, ⟨Int.le_refl _, fun _ => fun _ => rfl⟩, ?_, ?_, ?_⟩
          · omega
          · refine ⟨Int.le_refl _, ?_⟩
            intro e32
            intro c61
            omega
          · intro e31
            intro c62
            omega
        · have ht := Int.tdiv_eq_ediv_of_nonneg (a := i) (b := 2) (by omega); omega
        · have ht := Int.tdiv_eq_ediv_of_nonneg (a := i) (b := 2) (by omega); refine ⟨by omega, ⟨by omega, by omega⟩, by omega, by omega, fun q a b => KS_bd I1.1 (fun q a b => hp.2.2.2 q (by omega) (by omega)) q (by omega) (by omega)⟩
        · omega
        · omega
        · intro e38
          intro c63
          obtain rfl : i = m := (by omega); exact kdO_ref (by omega) (by omega) I1.1 (by omega) (by omega)
theorem s_kdOrder (X : Int → Int) (Y : Int → Int) (n : Int) (Z : Int → Int) (K : Int) (r : Int) (m : Int) (ax : Int) (O : Int → Int) (k : Int) (hp : ((0 : Int) ≤ r ∧ (r : Int) + m ≤ K) ∧ ((ax : Int) = 0 ∨ (ax : Int) = 1) ∧ ((n : Int) ≤ 20 ∧ (0 : Int) ≤ m ∧ (0 : Int) ≤ k ∧ (k : Int) + m ≤ 20) ∧ (∀ i, r ≤ i → i < r + m → 0 ≤ (Z (i)) ∧ (Z (i)) < n)) : s_kdOrder_S X Y n Z K r m ax O k := by
  have key : ∀ (M : Nat) (X : Int → Int) (Y : Int → Int) (n : Int) (Z : Int → Int) (K : Int) (r : Int) (m : Int) (ax : Int) (O : Int → Int) (k : Int), m.toNat = M → (((0 : Int) ≤ r ∧ (r : Int) + m ≤ K) ∧ ((ax : Int) = 0 ∨ (ax : Int) = 1) ∧ ((n : Int) ≤ 20 ∧ (0 : Int) ≤ m ∧ (0 : Int) ≤ k ∧ (k : Int) + m ≤ 20) ∧ (∀ i, r ≤ i → i < r + m → 0 ≤ (Z (i)) ∧ (Z (i)) < n)) → s_kdOrder_S X Y n Z K r m ax O k := by
    intro M
    induction M using Nat.strongRecOn with
    | ind M IH => exact fun X Y n Z K r m ax O k e hp => s_kdOrder_st X Y n Z K r m ax O k hp M e.symm (fun X Y n Z K r m ax O k h1 h2 => IH _ h1 X Y n Z K r m ax O k rfl h2)
  exact key _ X Y n Z K r m ax O k rfl hp
def c_s_kdOrder (X : Int → Int) (Y : Int → Int) (n : Int) (Z : Int → Int) (K : Int) (r : Int) (m : Int) (ax : Int) (O : Int → Int) (k : Int) : CnH Try.prog := ⟨_, _, _, _, _, _, s_kdOrder X Y n Z K r m ax O k⟩
end Go.Proofs.Ytljhomjaamjfaaa
