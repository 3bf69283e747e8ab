/- Forests, searches, pairs: contracts. -/
import Derived.Test.YtcfkpdjbjfnnmaaK60
import Derived.Test.YtcfkpdjbjfnnmaaK15
set_option linter.unusedSimpArgs false
set_option linter.unusedVariables false
set_option maxRecDepth 100000
namespace Go.Proofs.Ytcfkpdjbjfnnmaa
open Go.Sym
theorem itr_nx (P : Int → Int) {k i : Int} (h : 0 ≤ k) : P (itr P k.toNat i) = itr P (k + 1).toNat i := by
  rw [show (k + 1).toNat = k.toNat + 1 by omega, itr_end]
theorem root_go {P : Int → Int} {n i k : Int} (h : fR P n ∧ (0 ≤ i ∧ i < n)) (h0 : 0 ≤ k) (h1 : k ≤ 400) (hne : P (itr P k.toNat i) ≠ itr P k.toNat i) : k < 400 := by
  refine Classical.byContradiction fun hc => hne ?_
  obtain rfl : k = 400 := by omega
  exact h.1.2 i h.2.1 h.2.2
theorem root_in {P : Int → Int} {n i k : Int} (h : fR P n ∧ (0 ≤ i ∧ i < n)) : 0 ≤ itr P k.toNat i ∧ itr P k.toNat i < n := itr_in h.1.1 _ i h.2.1 h.2.2
theorem root_end {P : Int → Int} {i k : Int} (h1 : k ≤ 400) (h : P (itr P k.toNat i) = itr P k.toNat i) : itr P k.toNat i = rt P i := (rt_of (by omega) h).symm
theorem i_forestOf (n : Int) : RunsTo Try.prog 62 [(.int .i64 (.v fun _ => n) 0 20)] [] (.sl 0 1 (.lit 0) (.v fun _ => n) 1048576) [some ⟨3, 1, true, (.sym (.v fun _ => n) fun e => [(.int .i64 (.v fun _ => e.den) 0 1048576)])⟩] := by
  refine RunsTo.go env Try.func62 rfl Try.call62 rfl rfl (fun _ _ => (.need (.loop [] [0] (Int) (fun x1 => ⟨spl 17 0 [(2, (.raw (.slice none 0 0))), (3, (.sl 0 1 (.lit 0) (.v fun _ => x1) 20)), (7, (.int .i64 (.v fun _ => n) 0 20)), (8, (.int .i64 (.v fun _ => x1) 0 20))], [some ⟨3, 1, true, (.sym (.v fun _ => x1) fun e => [(.int .i64 (.v fun _ => (e.den)) 0 1048576)])⟩], 0⟩) (fun x1 => 0 ≤ x1 ∧ x1 ≤ n) (fun x1 => (n - x1).toNat) fun x1 => (.ite (.need (.next [0])) (.out .ret))))) (G := (0 ≤ n ∧ n ≤ 20) → (True) → ((0 ≤ n) ∧ ((∃ y2 : Int, ((0 ≤ y2 ∧ y2 ≤ n) ∧ (((((.slice none 0 0) : Value) = (.slice none 0 0)) ∧ (((0 : Int) = y2) ∧ ((n = n) ∧ ((0 : Int) = y2)))) ∧ (y2 = 0)))) ∧ (∀ x1 : Int, ((0 ≤ x1 ∧ x1 ≤ n) → (((x1 < n) → ((x1 = x1) ∧ (∃ y3 : Int, ((0 ≤ y3 ∧ y3 ≤ n) ∧ ((((((.slice none 0 0) : Value) = (.slice none 0 0)) ∧ ((((x1 + 1) = y3) ∧ (((x1 + 1) ≤ 21) → (y3 ≤ 20))) ∧ ((n = n) ∧ (((x1 + 1) = y3) ∧ ((1 ≤ (x1 + 1) ∧ (x1 + 1) ≤ 21) → (0 ≤ y3 ∧ y3 ≤ 20)))))) ∧ (((0 : Int) ≤ x1 ∧ y3 = x1 + 1) ∧ (((x1 ≤ x1) ∧ (∀ e5 : E, ((0 ≤ e5.den ∧ e5.den < x1) → ((e5.den) = (e5.den))))) ∧ (∀ e4 : E, ((e4.den = x1) → (x1 = (e4.den))))))) ∧ ((n - y3).toNat < (n - x1).toNat)))))) ∧ ((n ≤ x1) → ((x1 = n) ∧ ((n ≤ x1) ∧ (∀ e6 : E, ((0 ≤ e6.den ∧ e6.den < n) → ((e6.den) = e6.den)))))))))))) (by kernel_rfl) ?_
  intro h1 h2
  refine ⟨?_, ?_, ?_⟩
  · omega
  · refine ⟨0, ?_⟩
    try dsimp only
    refine ⟨?_, ?_, ?_⟩
    · omega
    · refine ⟨rfl, ?_, rfl, ?_⟩
      · omega
      · omega
    · omega
  · intro j
    intro I1
    refine ⟨?_, ?_⟩
    · intro c7
      refine ⟨?_, ?_⟩
      · omega
      · refine ⟨j + 1, ?_⟩
        try dsimp only
        refine ⟨?_, ?_, ?_⟩
        · omega
        · refine ⟨?_, ?_, ⟨Int.le_refl _, fun _ => fun _ => rfl⟩, ?_⟩
          · refine ⟨rfl, ?_, rfl, ?_, ?_⟩
            · refine ⟨?_, ?_⟩
              · omega
              · intro c8
                omega
            · omega
            · intro c9
              omega
          · omega
          · intro e4
            intro c10
            omega
        · omega
    · intro c11
      refine ⟨?_, ?_, fun _ => fun _ => rfl⟩
      · omega
      · omega
def c_i_forestOf (n : Int) : Cn Try.prog := ⟨_, _, _, _, _, i_forestOf n⟩
theorem i_root (P : Int → Int) (n : Int) (i : Int) (hp : fR P n ∧ (0 ≤ i ∧ i < n)) : RunsTo Try.prog 64 [(.sl 0 1 (.lit 0) (.v fun _ => n) 1048576), (.int .i64 (.v fun _ => i) (-9223372036854775808) 9223372036854775807)] [some ⟨3, 1, true, (.sym (.v fun _ => n) fun e => [(.int .i64 (.v fun _ => (P (e.den))) 0 1048576)])⟩] (.int .i64 (.v fun _ => rt P i) 0 1048576) [some ⟨3, 1, true, (.sym (.v fun _ => n) fun e => [(.int .i64 (.v fun _ => (P (e.den))) 0 1048576)])⟩] := by
  refine RunsTo.go env Try.func64 rfl Try.call64 rfl rfl (fun _ _ => (.loop [] [0] (Int) (fun x1 => ⟨spl 16 0 [(0, (.sl 0 1 (.lit 0) (.v fun _ => n) 1048576)), (1, (.int .i64 (.v fun _ => itr P x1.toNat i) (-9223372036854775808) 9223372036854775807)), (4, (.int .i64 (.lit 0) 0 0))], [some ⟨3, 1, true, (.sym (.v fun _ => n) fun e => [(.int .i64 (.v fun _ => (P (e.den))) 0 1048576)])⟩], 1⟩) (fun x1 => 0 ≤ x1 ∧ x1 ≤ 400) (fun x1 => (400 - x1).toNat) fun x1 => (.need (.need (.ite (.need (.need (.next [0]))) (.out .ret)))))) (G := ((0 ≤ n ∧ n ≤ 1048576) ∧ ((-9223372036854775808) ≤ i ∧ i ≤ 9223372036854775807)) → (∀ e7 : E, ((0 ≤ e7.den ∧ e7.den < n) → (0 ≤ ((P (e7.den))) ∧ ((P (e7.den))) ≤ 1048576))) → ((∃ y2 : Int, ((0 ≤ y2 ∧ y2 ≤ 400) ∧ (((n = n) ∧ (i = (itr P y2.toNat i))) ∧ ((n ≤ n) ∧ (∀ e3 : E, ((0 ≤ e3.den ∧ e3.den < n) → (((P (e3.den))) = ((P (e3.den)))))))))) ∧ (∀ x1 : Int, ((0 ≤ x1 ∧ x1 ≤ 400) → ((((0 ≤ (itr P x1.toNat i)) ∧ ((itr P x1.toNat i) < n))) ∧ (((itr P x1.toNat i) < n) ∧ (((((P (itr P x1.toNat i))) ≠ (itr P x1.toNat i)) → ((((0 ≤ (itr P x1.toNat i)) ∧ ((itr P x1.toNat i) < n))) ∧ (((itr P x1.toNat i) < n) ∧ (∃ y4 : Int, ((0 ≤ y4 ∧ y4 ≤ 400) ∧ ((((n = n) ∧ (((P (itr P x1.toNat i))) = (itr P y4.toNat i))) ∧ ((n ≤ n) ∧ (∀ e5 : E, ((0 ≤ e5.den ∧ e5.den < n) → (((P (e5.den))) = ((P (e5.den)))))))) ∧ ((400 - y4).toNat < (400 - x1).toNat))))))) ∧ ((((P (itr P x1.toNat i))) = (itr P x1.toNat i)) → ((((itr P x1.toNat i) = (rt P i)) ∧ (((-9223372036854775808) ≤ (itr P x1.toNat i) ∧ (itr P x1.toNat i) ≤ 9223372036854775807) → (0 ≤ (rt P i) ∧ (rt P i) ≤ 1048576))) ∧ ((n ≤ n) ∧ (∀ e6 : E, ((0 ≤ e6.den ∧ e6.den < n) → (((P (e6.den))) = ((P (e6.den)))))))))))))))) (by kernel_rfl) ?_
  intro h1 h2
  refine ⟨?_, ?_⟩
  · refine ⟨0, ?_⟩
    try dsimp only
    refine ⟨?_, ?_, Int.le_refl _, fun _ => fun _ => rfl⟩
    · omega
    · refine ⟨rfl, ?_⟩
      rfl
  · intro k
    intro I1
    refine ⟨?_, ?_, ?_, ?_⟩
    · have hb := root_in (k := k) hp; omega
    · have hb := root_in (k := k) hp; omega
    · intro c8
      refine ⟨?_, ?_, ?_⟩
      · have hb := root_in (k := k) hp; omega
      · have hb := root_in (k := k) hp; omega
      · refine ⟨k + 1, ?_⟩
        try dsimp only
        refine ⟨?_, ?_, ?_⟩
        · have hg := root_go (k := k) hp I1.1 I1.2 (by assumption); omega
        · refine ⟨?_, Int.le_refl _, fun _ => fun _ => rfl⟩
          refine ⟨rfl, ?_⟩
          exact itr_nx P (by omega)
        · have hg := root_go (k := k) hp I1.1 I1.2 (by assumption); omega
    · intro c9
      refine ⟨?_, Int.le_refl _, fun _ => fun _ => rfl⟩
      refine ⟨?_, ?_⟩
      · exact root_end (by omega) (by assumption)
      · intro c10
        have hb := hp.1.bd hp.2.1 hp.2.2; omega
def c_i_root (P : Int → Int) (n : Int) (i : Int) : CnH Try.prog := ⟨_, _, _, _, _, _, i_root P n i⟩
theorem i_join (P : Int → Int) (n : Int) (pA : Int) (pB : Int) (hp : fR P n ∧ (0 ≤ pA ∧ pA < n) ∧ (0 ≤ pB ∧ pB < n)) : RunsTo Try.prog 63 [(.sl 0 1 (.lit 0) (.v fun _ => n) 1048576), (.agg [(.int .i64 (.v fun _ => pA) (-9223372036854775808) 9223372036854775807), (.int .i64 (.v fun _ => pB) (-9223372036854775808) 9223372036854775807)])] [some ⟨3, 1, true, (.sym (.v fun _ => n) fun e => [(.int .i64 (.v fun _ => (P (e.den))) 0 1048576)])⟩] (.bool (.v fun _ => !(decide (rt P pA = rt P pB)))) [some ⟨3, 1, true, (.sym (.v fun _ => n) fun e => [(.int .i64 (.v fun _ => jnF P pA pB e.den) 0 1048576)])⟩] := by
  refine RunsTo.go env Try.func63 rfl Try.call63 rfl rfl (fun _ _ => (.callH (c_i_root P n pA) (.callH (c_i_root P n pB) (.need (.need .ret))))) (G := ((0 ≤ n ∧ n ≤ 1048576) ∧ (((-9223372036854775808) ≤ pA ∧ pA ≤ 9223372036854775807) ∧ ((-9223372036854775808) ≤ pB ∧ pB ≤ 9223372036854775807))) → (∀ e5 : E, ((0 ≤ e5.den ∧ e5.den < n) → (0 ≤ ((P (e5.den))) ∧ ((P (e5.den))) ≤ 1048576))) → ((fR P n ∧ (0 ≤ pA ∧ pA < n)) ∧ (((n = n) ∧ (pA = pA)) ∧ (((n ≤ n) ∧ (∀ e1 : E, ((0 ≤ e1.den ∧ e1.den < n) → (((P (e1.den))) = ((P (e1.den))))))) ∧ ((fR P n ∧ (0 ≤ pB ∧ pB < n)) ∧ (((n = n) ∧ (pB = pB)) ∧ (((n ≤ n) ∧ (∀ e2 : E, ((0 ≤ e2.den ∧ e2.den < n) → (((P (e2.den))) = ((P (e2.den))))))) ∧ ((((0 ≤ (rt P pA)) ∧ ((rt P pA) < n))) ∧ (((rt P pA) < n) ∧ ((((rt P pA) ≠ (rt P pB)) ↔ ((!(decide (rt P pA = rt P pB))) = true)) ∧ ((n = n) ∧ ((∀ e4 : E, ((0 ≤ e4.den ∧ e4.den < n ∧ e4.den ≠ (rt P pA)) → (((P (e4.den))) = (jnF P pA pB e4.den)))) ∧ (∀ e3 : E, ((e3.den.toNat = ((rt P pA) : Int).toNat ∧ 0 ≤ e3.den) → ((rt P pB) = (jnF P pA pB e3.den)))))))))))))))) (by kernel_rfl) ?_
  intro h1 h2
  refine ⟨?_, ⟨rfl, rfl⟩, ⟨Int.le_refl _, fun _ => fun _ => rfl⟩, ?_, ⟨rfl, rfl⟩, ⟨Int.le_refl _, fun _ => fun _ => rfl⟩, ?_, ?_, ?_, rfl, ?_, ?_⟩
  · exact ⟨hp.1, hp.2.1⟩
  · exact ⟨hp.1, hp.2.2⟩
  · have hb := hp.1.bd hp.2.1.1 hp.2.1.2; omega
  · have hb := hp.1.bd hp.2.1.1 hp.2.1.2; omega
  · simp; done
  · intro e4
    intro c6
    have hb := hp.1.bd hp.2.1.1 hp.2.1.2; (unfold jnF; rw [if_neg (by omega)]; done)
  · intro e3
    intro c7
    have hb := hp.1.bd hp.2.1.1 hp.2.1.2; (unfold jnF; rw [if_pos (by omega)]; done)
def c_i_join (P : Int → Int) (n : Int) (pA : Int) (pB : Int) : CnH Try.prog := ⟨_, _, _, _, _, _, i_join P n pA pB⟩
theorem i_pairs (n : Int) : RunsTo Try.prog 59 [(.int .i64 (.v fun _ => n) 0 20)] [] (.sl 0 2 (.lit 0) (.v fun _ => lenP (prsL n n (n + 1))) 1048576) [some ⟨58, 2, true, (.sym (.v fun _ => lenP (prsL n n (n + 1))) fun e => [(.int .i64 (.v fun _ => sA (prsL n n (n + 1)) e.den) 0 1048576), (.int .i64 (.v fun _ => sB (prsL n n (n + 1)) e.den) 0 1048576)])⟩] := by
  refine RunsTo.go env Try.func59 rfl Try.call59 rfl rfl (fun _ _ => (.loop [] [0] (Int) (fun x1 => ⟨spl 26 0 [(0, (.int .i64 (.v fun _ => n) 0 20)), (2, (.raw (.slice none 0 0))), (3, (.sl 0 2 (.lit 0) (.v fun _ => lenP (prsL n x1 (x1 + 1))) 1048576)), (7, (.int .i64 (.v fun _ => n) 0 20)), (8, (.int .i64 (.v fun _ => x1) 0 20))], [some ⟨58, 2, true, (.sym (.v fun _ => lenP (prsL n x1 (x1 + 1))) fun e => [(.int .i64 (.v fun _ => sA (prsL n x1 (x1 + 1)) (e.den)) 0 1048576), (.int .i64 (.v fun _ => sB (prsL n x1 (x1 + 1)) (e.den)) 0 1048576)])⟩], 0⟩) (fun x1 => (0 ≤ x1 ∧ x1 ≤ n) ∧ lenP (prsL n x1 (x1 + 1)) ≤ 20 * x1 + (x1 + 1)) (fun x1 => (n - x1).toNat) fun x1 => (.ite (.loop [] [0] (Int) (fun x3 => ⟨spl 26 0 [(0, (.int .i64 (.v fun _ => n) 0 20)), (2, (.raw (.slice none 0 0))), (3, (.sl 0 2 (.lit 0) (.v fun _ => lenP (prsL n x1 x3)) 1048576)), (4, (.int .i64 (.v fun _ => x1) 0 20)), (5, (.int .i64 (.v fun _ => x3) 0 21)), (7, (.int .i64 (.v fun _ => n) 0 20)), (8, (.int .i64 (.v fun _ => x1) 0 20)), (9, (.bool (.lt (.v fun _ => x1) (.v fun _ => n)))), (10, (.int .i64 (.v fun _ => x1) 0 20)), (11, (.int .i64 (.v fun _ => x1) 0 20)), (12, (.int .i64 (.add (.v fun _ => x1) (.lit 1)) 1 21))], [some ⟨58, 2, true, (.sym (.v fun _ => lenP (prsL n x1 x3)) fun e => [(.int .i64 (.v fun _ => sA (prsL n x1 x3) (e.den)) 0 1048576), (.int .i64 (.v fun _ => sB (prsL n x1 x3) (e.den)) 0 1048576)])⟩], 0⟩) (fun x3 => (0 ≤ x1 ∧ x1 + 1 ≤ x3 ∧ x3 ≤ n) ∧ lenP (prsL n x1 x3) ≤ 20 * x1 + x3) (fun x3 => (n - x3).toNat) fun x3 => (.ite (.need (.next [0])) (.out (.next [0])))) (.out .ret)))) (G := (0 ≤ n ∧ n ≤ 20) → (True) → ((∃ y2 : Int, (((0 ≤ y2 ∧ y2 ≤ n) ∧ lenP (prsL n y2 (y2 + 1)) ≤ 20 * y2 + (y2 + 1)) ∧ (((n = n) ∧ ((((.slice none 0 0) : Value) = (.slice none 0 0)) ∧ (((0 : Int) = (lenP (prsL n y2 (y2 + 1)))) ∧ ((n = n) ∧ ((0 : Int) = y2))))) ∧ ((lenP (prsL n y2 (y2 + 1))) = 0)))) ∧ (∀ x1 : Int, (((0 ≤ x1 ∧ x1 ≤ n) ∧ lenP (prsL n x1 (x1 + 1)) ≤ 20 * x1 + (x1 + 1)) → (((x1 < n) → ((∃ y4 : Int, (((0 ≤ x1 ∧ x1 + 1 ≤ y4 ∧ y4 ≤ n) ∧ lenP (prsL n x1 y4) ≤ 20 * x1 + y4) ∧ (((n = n) ∧ ((((.slice none 0 0) : Value) = (.slice none 0 0)) ∧ (((lenP (prsL n x1 (x1 + 1))) = (lenP (prsL n x1 y4))) ∧ ((x1 = x1) ∧ (((x1 + 1) = y4) ∧ ((n = n) ∧ ((x1 = x1) ∧ (((x1 < n) ↔ (x1 < n)) ∧ ((x1 = x1) ∧ ((x1 = x1) ∧ ((x1 + 1) = (x1 + 1)))))))))))) ∧ (((lenP (prsL n x1 y4)) ≤ (lenP (prsL n x1 (x1 + 1)))) ∧ (∀ e5 : E, ((0 ≤ e5.den ∧ e5.den < (lenP (prsL n x1 y4))) → (((sA (prsL n x1 (x1 + 1)) (e5.den)) = (sA (prsL n x1 y4) (e5.den))) ∧ ((sB (prsL n x1 (x1 + 1)) (e5.den)) = (sB (prsL n x1 y4) (e5.den)))))))))) ∧ (∀ x3 : Int, (((0 ≤ x1 ∧ x1 + 1 ≤ x3 ∧ x3 ≤ n) ∧ lenP (prsL n x1 x3) ≤ 20 * x1 + x3) → (((x3 < n) → (((lenP (prsL n x1 x3)) = (lenP (prsL n x1 x3))) ∧ (∃ y6 : Int, (((0 ≤ x1 ∧ x1 + 1 ≤ y6 ∧ y6 ≤ n) ∧ lenP (prsL n x1 y6) ≤ 20 * x1 + y6) ∧ ((((n = n) ∧ ((((.slice none 0 0) : Value) = (.slice none 0 0)) ∧ (((((lenP (prsL n x1 x3)) + 1) = (lenP (prsL n x1 y6))) ∧ ((((lenP (prsL n x1 x3)) + 1) ≤ 1048577) → ((lenP (prsL n x1 y6)) ≤ 1048576))) ∧ ((x1 = x1) ∧ ((((x3 + 1) = y6) ∧ ((1 ≤ (x3 + 1) ∧ (x3 + 1) ≤ 22) → (0 ≤ y6 ∧ y6 ≤ 21))) ∧ ((n = n) ∧ ((x1 = x1) ∧ (((x1 < n) ↔ (x1 < n)) ∧ ((x1 = x1) ∧ ((x1 = x1) ∧ ((x1 + 1) = (x1 + 1)))))))))))) ∧ (((0 : Int) ≤ (lenP (prsL n x1 x3)) ∧ (lenP (prsL n x1 y6)) = (lenP (prsL n x1 x3)) + 1) ∧ ((((lenP (prsL n x1 x3)) ≤ (lenP (prsL n x1 x3))) ∧ (∀ e8 : E, ((0 ≤ e8.den ∧ e8.den < (lenP (prsL n x1 x3))) → (((sA (prsL n x1 x3) (e8.den)) = (sA (prsL n x1 y6) (e8.den))) ∧ ((sB (prsL n x1 x3) (e8.den)) = (sB (prsL n x1 y6) (e8.den))))))) ∧ (∀ e7 : E, ((e7.den = (lenP (prsL n x1 x3))) → ((x1 = (sA (prsL n x1 y6) (e7.den))) ∧ (x3 = (sB (prsL n x1 y6) (e7.den))))))))) ∧ ((n - y6).toNat < (n - x3).toNat)))))) ∧ ((n ≤ x3) → (∃ y9 : Int, (((0 ≤ y9 ∧ y9 ≤ n) ∧ lenP (prsL n y9 (y9 + 1)) ≤ 20 * y9 + (y9 + 1)) ∧ ((((n = n) ∧ ((((.slice none 0 0) : Value) = (.slice none 0 0)) ∧ (((lenP (prsL n x1 x3)) = (lenP (prsL n y9 (y9 + 1)))) ∧ ((n = n) ∧ (((x1 + 1) = y9) ∧ ((1 ≤ (x1 + 1) ∧ (x1 + 1) ≤ 21) → (0 ≤ y9 ∧ y9 ≤ 20))))))) ∧ (((lenP (prsL n y9 (y9 + 1))) ≤ (lenP (prsL n x1 x3))) ∧ (∀ e10 : E, ((0 ≤ e10.den ∧ e10.den < (lenP (prsL n y9 (y9 + 1)))) → (((sA (prsL n x1 x3) (e10.den)) = (sA (prsL n y9 (y9 + 1)) (e10.den))) ∧ ((sB (prsL n x1 x3) (e10.den)) = (sB (prsL n y9 (y9 + 1)) (e10.den)))))))) ∧ ((n - y9).toNat < (n - x1).toNat)))))))))) ∧ ((n ≤ x1) → (((lenP (prsL n x1 (x1 + 1))) = (lenP (prsL n n (n + 1)))) ∧ (((lenP (prsL n n (n + 1))) ≤ (lenP (prsL n x1 (x1 + 1)))) ∧ (∀ e11 : E, ((0 ≤ e11.den ∧ e11.den < (lenP (prsL n n (n + 1)))) → (((sA (prsL n x1 (x1 + 1)) (e11.den)) = (sA (prsL n n (n + 1)) e11.den)) ∧ ((sB (prsL n x1 (x1 + 1)) (e11.den)) = (sB (prsL n n (n + 1)) e11.den))))))))))))) (by kernel_rfl) ?_
  intro h1 h2
  refine ⟨?_, ?_⟩
  · refine ⟨0, ?_⟩
    try dsimp only
    refine ⟨?_, ?_, ?_⟩
    · have hz : lenP (prsL n 0 (0 + 1)) = 0 := rfl; omega
    · refine ⟨rfl, rfl, ?_, rfl, ?_⟩
      · rfl
      · rfl
    · rfl
  · intro j
    intro I1
    refine ⟨?_, ?_⟩
    · intro c12
      refine ⟨?_, ?_⟩
      · refine ⟨j + 1, ?_⟩
        try dsimp only
        refine ⟨?_, ?_, ?_, ?_⟩
        · omega
        · refine ⟨rfl, rfl, ?_, rfl, ?_, rfl, rfl, Iff.rfl, rfl, rfl, rfl⟩
          · rfl
          · rfl
        · omega
        · intro e5
          intro c13
          refine ⟨?_, ?_⟩
          · rfl
          · rfl
      · intro k
        intro I2
        refine ⟨?_, ?_⟩
        · intro c14
          refine ⟨?_, ?_⟩
          · rfl
          · refine ⟨k + 1, ?_⟩
            try dsimp only
            refine ⟨?_, ?_, ?_⟩
            · have hz := lenP_nn (prsL n j k); have hy := lenP_snoc (prsL n j k) (j, k); rw [← prsL_in (by omega)] at hy; omega
            · refine ⟨?_, ?_, ?_, ?_⟩
              · refine ⟨rfl, rfl, ?_, rfl, ?_, rfl, rfl, Iff.rfl, rfl, rfl, rfl⟩
                · refine ⟨?_, ?_⟩
                  · have hz := lenP_nn (prsL n j k); have hy := lenP_snoc (prsL n j k) (j, k); rw [← prsL_in (by omega)] at hy; omega
                  · intro c15
                    have hz := lenP_nn (prsL n j k); have hy := lenP_snoc (prsL n j k) (j, k); rw [← prsL_in (by omega)] at hy; omega
                · refine ⟨?_, ?_⟩
                  · rfl
                  · intro c16
                    omega
              · have hz := lenP_nn (prsL n j k); have hy := lenP_snoc (prsL n j k) (j, k); rw [← prsL_in (by omega)] at hy; omega
              · refine ⟨Int.le_refl _, ?_⟩
                intro e8
                intro c17
                refine ⟨?_, ?_⟩
                · rw [prsL_in (by omega), (s_old (by omega) (by omega)).1]; done
                · rw [prsL_in (by omega), (s_old (by omega) (by omega)).2]; done
              · intro e7
                intro c18
                refine ⟨?_, ?_⟩
                · rw [prsL_in (by omega), (s_new (by omega)).1]; done
                · rw [prsL_in (by omega), (s_new (by omega)).2]; done
            · omega
        · intro c19
          refine ⟨j + 1, ?_⟩
          try dsimp only
          refine ⟨?_, ?_, ?_⟩
          · have e : k = n := (by omega); subst e; rw [prsL_out (by omega) (by omega)]; omega
          · refine ⟨?_, ?_, ?_⟩
            · refine ⟨rfl, rfl, ?_, rfl, ?_, ?_⟩
              · have e : k = n := (by omega); subst e; rw [prsL_out (by omega) (by omega)]; done
              · rfl
              · intro c20
                omega
            · have e : k = n := (by omega); subst e; rw [prsL_out (by omega) (by omega)]; exact Int.le_refl _
            · intro e10
              intro c21
              refine ⟨?_, ?_⟩
              · have e : k = n := (by omega); subst e; rw [prsL_out (by omega) (by omega)]; done
              · have e : k = n := (by omega); subst e; rw [prsL_out (by omega) (by omega)]; done
          · omega
    · intro c22
      refine ⟨?_, ?_, ?_⟩
      · have e : j = n := (by omega); subst e; rfl
      · have e : j = n := (by omega); subst e; exact Int.le_refl _
      · intro e11
        intro c23
        refine ⟨?_, ?_⟩
        · have e : j = n := (by omega); subst e; rfl
        · have e : j = n := (by omega); subst e; rfl
def c_i_pairs (n : Int) : Cn Try.prog := ⟨_, _, _, _, _, i_pairs n⟩
theorem CheckSpanning1 (pA : Int) (pB : Int) : RunsTo Try.prog 58 [(.agg [(.int .i64 (.v fun _ => pA) (-9223372036854775808) 9223372036854775807), (.int .i64 (.v fun _ => pB) (-9223372036854775808) 9223372036854775807)])] [] (.bool (.v fun _ => decide (pA = pB))) [] := by
  refine RunsTo.go env Try.func58 rfl Try.call58 rfl rfl (fun _ _ => .ret) (G := (((-9223372036854775808) ≤ pA ∧ pA ≤ 9223372036854775807) ∧ ((-9223372036854775808) ≤ pB ∧ pB ≤ 9223372036854775807)) → (True) → ((pA = pB) ↔ ((decide (pA = pB)) = true))) (by kernel_rfl) ?_
  intro h1 h2
  simp
def c_CheckSpanning1 (pA : Int) (pB : Int) : Cn Try.prog := ⟨_, _, _, _, _, CheckSpanning1 pA pB⟩
theorem jn_in {P : Int → Int} {n a b i : Int} (h : fR P n) (ha : 0 ≤ a ∧ a < n) (hb : 0 ≤ b ∧ b < n) (h0 : 0 ≤ i) (h1 : i < n) : 0 ≤ jnF P a b i ∧ jnF P a b i < n := by
  unfold jnF
  split
  · exact h.bd hb.1 hb.2
  · exact h.1 i h0 h1
theorem CheckSpanning2 (X : Int → Int) (Y : Int → Int) (n : Int) (A : Int → Int) (B : Int → Int) (m : Int) (pA : Int) (pB : Int) (hp : (0 ≤ pA ∧ pA < n) ∧ (0 ≤ pB ∧ pB < n) ∧ edR A B n m ∧ n ≤ 20 ∧ m ≤ 400) : RunsTo Try.prog 60 [(.agg [(.int .i64 (.v fun _ => pA) (-9223372036854775808) 9223372036854775807), (.int .i64 (.v fun _ => pB) (-9223372036854775808) 9223372036854775807)]), (.ptr 0 1 (.lit 0) 0), (.ptr 1 1 (.lit 0) 0)] [some ⟨27, 1, true, (.lit [[(.sl 2 2 (.lit 0) (.v fun _ => n) 1048576)]])⟩, some ⟨29, 1, true, (.lit [[(.sl 3 2 (.lit 0) (.v fun _ => m) 1048576)]])⟩, some ⟨50, 2, true, (.sym (.v fun _ => n) fun e => [(.int .i64 (.v fun _ => (X (e.den))) (-1000) 1000), (.int .i64 (.v fun _ => (Y (e.den))) (-1000) 1000)])⟩, some ⟨58, 2, true, (.sym (.v fun _ => m) fun e => [(.int .i64 (.v fun _ => (A (e.den))) (-9223372036854775808) 9223372036854775807), (.int .i64 (.v fun _ => (B (e.den))) (-9223372036854775808) 9223372036854775807)])⟩] (.bool (.v fun _ => !(lnk X Y A B m (mhD X Y pA pB) pA pB))) [some ⟨27, 1, true, (.lit [[(.sl 2 2 (.lit 0) (.v fun _ => n) 1048576)]])⟩, some ⟨29, 1, true, (.lit [[(.sl 3 2 (.lit 0) (.v fun _ => m) 1048576)]])⟩, some ⟨50, 2, true, (.sym (.v fun _ => n) fun e => [(.int .i64 (.v fun _ => (X (e.den))) (-1000) 1000), (.int .i64 (.v fun _ => (Y (e.den))) (-1000) 1000)])⟩, some ⟨58, 2, true, (.sym (.v fun _ => m) fun e => [(.int .i64 (.v fun _ => (A (e.den))) (-9223372036854775808) 9223372036854775807), (.int .i64 (.v fun _ => (B (e.den))) (-9223372036854775808) 9223372036854775807)])⟩] := by
  refine RunsTo.go env Try.func60 rfl Try.call60 rfl rfl (fun _ _ => (.need (.need (.need (.need (.callF (c_i_length ((X (pA))) ((Y (pA))) ((X (pB))) ((Y (pB)))) (.callF (c_i_forestOf n) (.loop [] [0, 1, 2, 3, 4, 5] (Int) (fun x1 => ⟨spl 55 0 [(1, (.ptr 0 1 (.lit 0) 0)), (3, (.ptr 4 2 (.lit 0) 0)), (4, (.bool (.lit false))), (5, (.int .i64 (.v fun _ => mht ((X (pA))) ((Y (pA))) ((X (pB))) ((Y (pB)))) 0 4000)), (6, (.sl 5 1 (.lit 0) (.v fun _ => n) 1048576)), (23, (.sl 3 2 (.lit 0) (.v fun _ => m) 1048576)), (24, (.int .i64 (.v fun _ => m) 0 1048576)), (25, (.int .i64 (.v fun _ => x1) 0 1048576))], [some ⟨27, 1, true, (.lit [[(.sl 2 2 (.lit 0) (.v fun _ => n) 1048576)]])⟩, some ⟨29, 1, true, (.lit [[(.sl 3 2 (.lit 0) (.v fun _ => m) 1048576)]])⟩, some ⟨50, 2, true, (.sym (.v fun _ => n) fun e => [(.int .i64 (.v fun _ => (X (e.den))) (-1000) 1000), (.int .i64 (.v fun _ => (Y (e.den))) (-1000) 1000)])⟩, some ⟨58, 2, true, (.sym (.v fun _ => m) fun e => [(.int .i64 (.v fun _ => (A (e.den))) (-9223372036854775808) 9223372036854775807), (.int .i64 (.v fun _ => (B (e.den))) (-9223372036854775808) 9223372036854775807)])⟩, some ⟨58, 2, true, (.lit [[(.int .i64 (.v fun _ => pA) (-9223372036854775808) 9223372036854775807), (.int .i64 (.v fun _ => pB) (-9223372036854775808) 9223372036854775807)]])⟩, some ⟨3, 1, true, (.sym (.v fun _ => n) fun e => [(.int .i64 (.v fun _ => lFi X Y A B (mhD X Y pA pB) x1 (e.den)) 0 1048576)])⟩], 4⟩) (fun x1 => 0 ≤ x1 ∧ x1 ≤ m) (fun x1 => (m - x1).toNat) fun x1 => (.ite (.need (.need (.need (.need (.need (.need (.call (c_i_length ((X ((A (x1))))) ((Y ((A (x1))))) ((X ((B (x1))))) ((Y ((B (x1)))))) (.ite (.callH (c_i_join (lFi X Y A B (mhD X Y pA pB) x1) n ((A (x1))) ((B (x1)))) (.next [0, 1, 2, 3, 4, 5])) (.next [0, 1, 2, 3, 4, 5]))))))))) (.out (.callH (c_i_root (lFi X Y A B (mhD X Y pA pB) x1) n pA) (.callH (c_i_root (lFi X Y A B (mhD X Y pA pB) x1) n pB) .ret)))))))))))) (G := (((-9223372036854775808) ≤ pA ∧ pA ≤ 9223372036854775807) ∧ ((-9223372036854775808) ≤ pB ∧ pB ≤ 9223372036854775807)) → ((0 ≤ n ∧ n ≤ 1048576) ∧ ((0 ≤ m ∧ m ≤ 1048576) ∧ ((∀ e20 : E, ((0 ≤ e20.den ∧ e20.den < n) → (((-1000) ≤ ((X (e20.den))) ∧ ((X (e20.den))) ≤ 1000) ∧ ((-1000) ≤ ((Y (e20.den))) ∧ ((Y (e20.den))) ≤ 1000)))) ∧ (∀ e19 : E, ((0 ≤ e19.den ∧ e19.den < m) → (((-9223372036854775808) ≤ ((A (e19.den))) ∧ ((A (e19.den))) ≤ 9223372036854775807) ∧ ((-9223372036854775808) ≤ ((B (e19.den))) ∧ ((B (e19.den))) ≤ 9223372036854775807))))))) → ((((0 ≤ pA) ∧ (pA < n))) ∧ ((pA < n) ∧ ((((0 ≤ pB) ∧ (pB < n))) ∧ ((pB < n) ∧ ((((((X (pA))) = ((X (pA)))) ∧ (((Y (pA))) = ((Y (pA))))) ∧ ((((X (pB))) = ((X (pB)))) ∧ (((Y (pB))) = ((Y (pB)))))) ∧ ((0 ≤ (mht ((X (pA))) ((Y (pA))) ((X (pB))) ((Y (pB)))) ∧ (mht ((X (pA))) ((Y (pA))) ((X (pB))) ((Y (pB)))) ≤ 4000) → (((n = n) ∧ ((0 ≤ n ∧ n ≤ 1048576) → (0 ≤ n ∧ n ≤ 20))) ∧ ((0 ≤ n ∧ n ≤ 1048576) → ((∃ y2 : Int, ((0 ≤ y2 ∧ y2 ≤ m) ∧ ((((mht ((X (pA))) ((Y (pA))) ((X (pB))) ((Y (pB)))) = (mht ((X (pA))) ((Y (pA))) ((X (pB))) ((Y (pB))))) ∧ ((n = n) ∧ ((m = m) ∧ ((m = m) ∧ ((0 : Int) = y2))))) ∧ ((n = n) ∧ ((m = m) ∧ (((n ≤ n) ∧ (∀ e5 : E, ((0 ≤ e5.den ∧ e5.den < n) → ((((X (e5.den))) = ((X (e5.den)))) ∧ (((Y (e5.den))) = ((Y (e5.den)))))))) ∧ (((m ≤ m) ∧ (∀ e4 : E, ((0 ≤ e4.den ∧ e4.den < m) → ((((A (e4.den))) = ((A (e4.den)))) ∧ (((B (e4.den))) = ((B (e4.den)))))))) ∧ (((pA = pA) ∧ (pB = pB)) ∧ ((n ≤ n) ∧ (∀ e3 : E, ((0 ≤ e3.den ∧ e3.den < n) → ((e3.den) = (lFi X Y A B (mhD X Y pA pB) y2 (e3.den)))))))))))))) ∧ (∀ x1 : Int, ((0 ≤ x1 ∧ x1 ≤ m) → (((x1 < m) → ((((0 ≤ x1) ∧ (x1 < m))) ∧ ((x1 < m) ∧ ((((0 ≤ ((A (x1)))) ∧ (((A (x1))) < n))) ∧ ((((A (x1))) < n) ∧ ((((0 ≤ ((B (x1)))) ∧ (((B (x1))) < n))) ∧ ((((B (x1))) < n) ∧ ((((((X ((A (x1))))) = ((X ((A (x1)))))) ∧ (((Y ((A (x1))))) = ((Y ((A (x1))))))) ∧ ((((X ((B (x1))))) = ((X ((B (x1)))))) ∧ (((Y ((B (x1))))) = ((Y ((B (x1)))))))) ∧ ((((mht ((X ((A (x1))))) ((Y ((A (x1))))) ((X ((B (x1))))) ((Y ((B (x1)))))) ≤ (mht ((X (pA))) ((Y (pA))) ((X (pB))) ((Y (pB))))) → ((fR (lFi X Y A B (mhD X Y pA pB) x1) n ∧ (0 ≤ ((A (x1))) ∧ ((A (x1))) < n) ∧ (0 ≤ ((B (x1))) ∧ ((B (x1))) < n)) ∧ (((n = n) ∧ ((((A (x1))) = ((A (x1)))) ∧ (((B (x1))) = ((B (x1)))))) ∧ (((n ≤ n) ∧ (∀ e6 : E, ((0 ≤ e6.den ∧ e6.den < n) → ((lFi X Y A B (mhD X Y pA pB) x1 (e6.den)) = (lFi X Y A B (mhD X Y pA pB) x1 ((e6.den))))))) ∧ (∃ y7 : Int, ((0 ≤ y7 ∧ y7 ≤ m) ∧ (((((mht ((X (pA))) ((Y (pA))) ((X (pB))) ((Y (pB)))) = (mht ((X (pA))) ((Y (pA))) ((X (pB))) ((Y (pB))))) ∧ ((n = n) ∧ ((m = m) ∧ ((m = m) ∧ (((x1 + 1) = y7) ∧ ((1 ≤ (x1 + 1) ∧ (x1 + 1) ≤ 1048577) → (0 ≤ y7 ∧ y7 ≤ 1048576))))))) ∧ ((n = n) ∧ ((m = m) ∧ (((n ≤ n) ∧ (∀ e10 : E, ((0 ≤ e10.den ∧ e10.den < n) → ((((X (e10.den))) = ((X (e10.den)))) ∧ (((Y (e10.den))) = ((Y (e10.den)))))))) ∧ (((m ≤ m) ∧ (∀ e9 : E, ((0 ≤ e9.den ∧ e9.den < m) → ((((A (e9.den))) = ((A (e9.den)))) ∧ (((B (e9.den))) = ((B (e9.den)))))))) ∧ (((pA = pA) ∧ (pB = pB)) ∧ ((n ≤ n) ∧ (∀ e8 : E, ((0 ≤ e8.den ∧ e8.den < n) → ((jnF (lFi X Y A B (mhD X Y pA pB) x1) ((A (x1))) ((B (x1))) (e8.den)) = (lFi X Y A B (mhD X Y pA pB) y7 (e8.den)))))))))))) ∧ ((m - y7).toNat < (m - x1).toNat)))))))) ∧ (((mht ((X (pA))) ((Y (pA))) ((X (pB))) ((Y (pB)))) < (mht ((X ((A (x1))))) ((Y ((A (x1))))) ((X ((B (x1))))) ((Y ((B (x1))))))) → (∃ y11 : Int, ((0 ≤ y11 ∧ y11 ≤ m) ∧ (((((mht ((X (pA))) ((Y (pA))) ((X (pB))) ((Y (pB)))) = (mht ((X (pA))) ((Y (pA))) ((X (pB))) ((Y (pB))))) ∧ ((n = n) ∧ ((m = m) ∧ ((m = m) ∧ (((x1 + 1) = y11) ∧ ((1 ≤ (x1 + 1) ∧ (x1 + 1) ≤ 1048577) → (0 ≤ y11 ∧ y11 ≤ 1048576))))))) ∧ ((n = n) ∧ ((m = m) ∧ (((n ≤ n) ∧ (∀ e14 : E, ((0 ≤ e14.den ∧ e14.den < n) → ((((X (e14.den))) = ((X (e14.den)))) ∧ (((Y (e14.den))) = ((Y (e14.den)))))))) ∧ (((m ≤ m) ∧ (∀ e13 : E, ((0 ≤ e13.den ∧ e13.den < m) → ((((A (e13.den))) = ((A (e13.den)))) ∧ (((B (e13.den))) = ((B (e13.den)))))))) ∧ (((pA = pA) ∧ (pB = pB)) ∧ ((n ≤ n) ∧ (∀ e12 : E, ((0 ≤ e12.den ∧ e12.den < n) → ((lFi X Y A B (mhD X Y pA pB) x1 (e12.den)) = (lFi X Y A B (mhD X Y pA pB) y11 (e12.den)))))))))))) ∧ ((m - y11).toNat < (m - x1).toNat)))))))))))))) ∧ ((m ≤ x1) → ((fR (lFi X Y A B (mhD X Y pA pB) x1) n ∧ (0 ≤ pA ∧ pA < n)) ∧ (((n = n) ∧ (pA = pA)) ∧ (((n ≤ n) ∧ (∀ e15 : E, ((0 ≤ e15.den ∧ e15.den < n) → ((lFi X Y A B (mhD X Y pA pB) x1 (e15.den)) = (lFi X Y A B (mhD X Y pA pB) x1 ((e15.den))))))) ∧ ((fR (lFi X Y A B (mhD X Y pA pB) x1) n ∧ (0 ≤ pB ∧ pB < n)) ∧ (((n = n) ∧ (pB = pB)) ∧ (((n ≤ n) ∧ (∀ e16 : E, ((0 ≤ e16.den ∧ e16.den < n) → ((lFi X Y A B (mhD X Y pA pB) x1 ((e16.den))) = (((lFi X Y A B (mhD X Y pA pB) x1 (((e16.den)))))))))) ∧ ((((rt (lFi X Y A B (mhD X Y pA pB) x1) pA) ≠ (rt (lFi X Y A B (mhD X Y pA pB) x1) pB)) ↔ ((!(lnk X Y A B m (mhD X Y pA pB) pA pB)) = true)) ∧ ((n = n) ∧ ((m = m) ∧ (((n ≤ n) ∧ (∀ e18 : E, ((0 ≤ e18.den ∧ e18.den < n) → ((((X (e18.den))) = ((X (e18.den)))) ∧ (((Y (e18.den))) = ((Y (e18.den)))))))) ∧ ((m ≤ m) ∧ (∀ e17 : E, ((0 ≤ e17.den ∧ e17.den < m) → ((((A (e17.den))) = ((A (e17.den)))) ∧ (((B (e17.den))) = ((B (e17.den)))))))))))))))))))))))))))))))) (by kernel_rfl) ?_
  intro h1 h2
  refine ⟨?_, ?_, ?_, ?_, ⟨⟨rfl, rfl⟩, ⟨rfl, rfl⟩⟩, ?_⟩
  · omega
  · omega
  · omega
  · omega
  · intro c21
    refine ⟨?_, ?_⟩
    · refine ⟨rfl, ?_⟩
      intro c22
      omega
    · intro c23
      refine ⟨?_, ?_⟩
      · refine ⟨0, ?_⟩
        try dsimp only
        refine ⟨?_, ?_, rfl, rfl, ⟨Int.le_refl _, fun _ => fun _ => ⟨rfl, rfl⟩⟩, ⟨Int.le_refl _, fun _ => fun _ => ⟨rfl, rfl⟩⟩, ⟨rfl, rfl⟩, Int.le_refl _, ?_⟩
        · omega
        · refine ⟨rfl, rfl, rfl, rfl, ?_⟩
          rfl
        · intro e3
          intro c24
          rfl
      · intro j
        intro I1
        refine ⟨?_, ?_⟩
        · intro c25
          refine ⟨?_, ?_, ?_, ?_, ?_, ?_, ⟨⟨rfl, rfl⟩, ⟨rfl, rfl⟩⟩, ?_, ?_⟩
          · omega
          · omega
          · have he := hp.2.2.1 j (by omega) (by omega); omega
          · have he := hp.2.2.1 j (by omega) (by omega); omega
          · have he := hp.2.2.1 j (by omega) (by omega); omega
          · have he := hp.2.2.1 j (by omega) (by omega); omega
          · intro c26
            refine ⟨?_, ⟨rfl, ⟨rfl, rfl⟩⟩, ⟨Int.le_refl _, fun _ => fun _ => rfl⟩, ?_⟩
            · have he := hp.2.2.1 j (by omega) (by omega); have hf := lF_R (X := X) (Y := Y) (most := mhD X Y pA pB) (j := j) hp.2.2.1 (by omega) (by omega) (by omega); exact ⟨hf, he.1, he.2⟩
            · refine ⟨j + 1, ?_⟩
              try dsimp only
              refine ⟨?_, ?_, ?_⟩
              · omega
              · refine ⟨?_, rfl, rfl, ⟨Int.le_refl _, fun _ => fun _ => ⟨rfl, rfl⟩⟩, ⟨Int.le_refl _, fun _ => fun _ => ⟨rfl, rfl⟩⟩, ⟨rfl, rfl⟩, Int.le_refl _, ?_⟩
                · refine ⟨rfl, rfl, rfl, rfl, ?_, ?_⟩
                  · rfl
                  · intro c27
                    omega
                · intro e8
                  intro c28
                  exact (lFi_yes (by omega) (by assumption) _).symm
              · omega
          · intro c29
            refine ⟨j + 1, ?_⟩
            try dsimp only
            refine ⟨?_, ?_, ?_⟩
            · omega
            · refine ⟨?_, rfl, rfl, ⟨Int.le_refl _, fun _ => fun _ => ⟨rfl, rfl⟩⟩, ⟨Int.le_refl _, fun _ => fun _ => ⟨rfl, rfl⟩⟩, ⟨rfl, rfl⟩, Int.le_refl _, ?_⟩
              · refine ⟨rfl, rfl, rfl, rfl, ?_, ?_⟩
                · rfl
                · intro c30
                  omega
              · intro e12
                intro c31
                exact (lFi_no (by omega) (by assumption) _).symm
            · omega
        · intro c32
          refine ⟨?_, ⟨rfl, rfl⟩, ⟨Int.le_refl _, fun _ => fun _ => rfl⟩, ?_, ⟨rfl, rfl⟩, ⟨Int.le_refl _, fun _ => fun _ => rfl⟩, ?_, rfl, rfl, ⟨Int.le_refl _, fun _ => fun _ => ⟨rfl, rfl⟩⟩, Int.le_refl _, fun _ => fun _ => ⟨rfl, rfl⟩⟩
          · have hf := lF_R (X := X) (Y := Y) (most := mhD X Y pA pB) (j := j) hp.2.2.1 (by omega) (by omega) (by omega); exact ⟨hf, hp.1⟩
          · have hf := lF_R (X := X) (Y := Y) (most := mhD X Y pA pB) (j := j) hp.2.2.1 (by omega) (by omega) (by omega); exact ⟨hf, hp.2.1⟩
          · obtain rfl : j = m := (by omega); have hl := lnk_rt (X := X) (Y := Y) (A := A) (B := B) (most := mhD X Y pA pB) hp.2.2.1 (by omega) (by omega) hp.1 hp.2.1; rw [Bool.not_eq_true', ← Bool.not_eq_true, hl]; done
def c_CheckSpanning2 (X : Int → Int) (Y : Int → Int) (n : Int) (A : Int → Int) (B : Int → Int) (m : Int) (pA : Int) (pB : Int) : CnH Try.prog := ⟨_, _, _, _, _, _, CheckSpanning2 X Y n A B m pA pB⟩
end Go.Proofs.Ytcfkpdjbjfnnmaa
