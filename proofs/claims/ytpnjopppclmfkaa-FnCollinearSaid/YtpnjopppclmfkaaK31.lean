/- Points on one line. -/
import Derived.Test.YtpnjopppclmfkaaK30
import Derived.Test.YtpnjopppclmfkaaK3
set_option linter.unusedSimpArgs false
set_option linter.unusedVariables false
set_option maxRecDepth 100000
namespace Go.Proofs.Ytpnjopppclmfkaa
open Go.Sym
/-- All of n points are on the line through the first and the last. -/
def lnB (X Y : Int → Int) (n : Int) : Bool := allB (fun i => decide (trn (X 0) (Y 0) (X (n - 1)) (Y (n - 1)) (X i) (Y i) = 0)) n
def icB (X Y : Int → Int) (n : Int) : Bool := lnB (iX X Y n) (iY X Y n) (iN X Y n)
/-- Any three of n points are on one line. -/
def tcB (X Y : Int → Int) (i k m : Int) : Bool := decide (trn (X i) (Y i) (X k) (Y k) (X m) (Y m) = 0)
def scB (X Y : Int → Int) (n : Int) : Bool := allB (fun i => allB (fun k => allB (tcB X Y i k) k) i) n
theorem i_in {X Y : Int → Int} {n i : Int} (h0 : 0 ≤ i) (h1 : i < iN X Y n) : ∃ j, (0 ≤ j ∧ j < n) ∧ X j = iX X Y n i ∧ Y j = iY X Y n i := i_mem.1 ⟨i, ⟨h0, h1⟩, rfl, rfl⟩
theorem i_out {X Y : Int → Int} {n j : Int} (h0 : 0 ≤ j) (h1 : j < n) : ∃ i, (0 ≤ i ∧ i < iN X Y n) ∧ iX X Y n i = X j ∧ iY X Y n i = Y j := i_mem.2 ⟨j, ⟨h0, h1⟩, rfl, rfl⟩
theorem iX_bd {X Y : Int → Int} {n lo hi lo2 hi2 i : Int} (h : ∀ j, 0 ≤ j → j < n → (lo ≤ X j ∧ X j ≤ hi) ∧ lo2 ≤ Y j ∧ Y j ≤ hi2) (h0 : 0 ≤ i) (h1 : i < iN X Y n) : (lo ≤ iX X Y n i ∧ iX X Y n i ≤ hi) ∧ lo2 ≤ iY X Y n i ∧ iY X Y n i ≤ hi2 := by
  obtain ⟨j, ⟨a, b⟩, c, d⟩ := i_in h0 h1
  have := h j a b
  rw [c, d] at this
  exact this
theorem iN_pos {X Y : Int → Int} {n : Int} (h : 0 < n) : 0 < iN X Y n := by
  obtain ⟨i, hi, _⟩ := i_out (X := X) (Y := Y) (show (0 : Int) ≤ 0 by omega) h
  omega
theorem trn_perm (ax ay bx bY cx cy : Int) : trn ax ay cx cy bx bY = -trn ax ay bx bY cx cy ∧ trn bx bY ax ay cx cy = -trn ax ay bx bY cx cy ∧ trn bx bY cx cy ax ay = trn ax ay bx bY cx cy ∧ trn cx cy ax ay bx bY = trn ax ay bx bY cx cy ∧ trn cx cy bx bY ax ay = -trn ax ay bx bY cx cy := by
  unfold trn
  refine ⟨?_, ?_, ?_, ?_, ?_⟩ <;> grind
theorem trn_same (ax ay bx bY : Int) : trn ax ay ax ay bx bY = 0 ∧ trn ax ay bx bY ax ay = 0 ∧ trn ax ay bx bY bx bY = 0 := by
  unfold trn
  refine ⟨?_, ?_, ?_⟩ <;> grind
theorem trn_three {ax ay bx bY px py qx qy rx ry : Int} (hp : trn ax ay bx bY px py = 0) (hq : trn ax ay bx bY qx qy = 0) (hr : trn ax ay bx bY rx ry = 0) : (bx - ax) * trn px py qx qy rx ry = 0 ∧ (bY - ay) * trn px py qx qy rx ry = 0 := by
  unfold trn at *
  constructor <;> grind
theorem trn_all {ax ay bx bY px py qx qy rx ry : Int} (hn : ¬ (ax = bx ∧ ay = bY)) (hp : trn ax ay bx bY px py = 0) (hq : trn ax ay bx bY qx qy = 0) (hr : trn ax ay bx bY rx ry = 0) : trn px py qx qy rx ry = 0 := by
  obtain ⟨h1, h2⟩ := trn_three hp hq hr
  rcases Int.mul_eq_zero.1 h1 with h | h
  · rcases Int.mul_eq_zero.1 h2 with h' | h'
    · exact absurd ⟨by omega, by omega⟩ hn
    · exact h'
  · exact h
theorem scB_iff {X Y : Int → Int} {n : Int} : scB X Y n = true ↔ ∀ i k m, (0 ≤ i ∧ i < n) → (0 ≤ k ∧ k < n) → (0 ≤ m ∧ m < n) → trn (X i) (Y i) (X k) (Y k) (X m) (Y m) = 0 := by
  have e : scB X Y n = true ↔ ∀ i k m, (0 ≤ m ∧ m < k) → k < i → i < n → trn (X i) (Y i) (X k) (Y k) (X m) (Y m) = 0 := by
    unfold scB
    rw [allB_iff]
    constructor
    · intro h i k m hm hk hi
      have := allB_iff.1 (allB_iff.1 (h i (by omega) hi) k (by omega) hk) m hm.1 hm.2
      unfold tcB at this
      exact of_decide_eq_true this
    · intro h i hi0 hi1
      rw [allB_iff]
      intro k hk0 hk1
      rw [allB_iff]
      intro m hm0 hm1
      exact decide_eq_true (h i k m ⟨hm0, hm1⟩ hk1 hi1)
  rw [e]
  constructor
  · intro h i k m hi hk hm
    by_cases h1 : i = k
    · rw [h1]; exact (trn_same _ _ _ _).1
    by_cases h2 : i = m
    · rw [h2]; exact (trn_same _ _ _ _).2.1
    by_cases h3 : k = m
    · rw [h3]; exact (trn_same _ _ _ _).2.2
    have t := trn_perm (X i) (Y i) (X k) (Y k) (X m) (Y m)
    rcases Int.lt_or_gt_of_ne h1 with a | a <;> rcases Int.lt_or_gt_of_ne h2 with b | b <;> rcases Int.lt_or_gt_of_ne h3 with c | c
    · have := h m k i (by omega) (by omega) (by omega); omega
    · have := h k m i (by omega) (by omega) (by omega); omega
    · omega
    · have := h k i m (by omega) (by omega) (by omega); omega
    · have := h m i k (by omega) (by omega) (by omega); omega
    · omega
    · have := h i m k (by omega) (by omega) (by omega); omega
    · have := h i k m (by omega) (by omega) (by omega); omega
  · intro h i k m hm hk hi
    exact h i k m (by omega) (by omega) (by omega)
theorem lnB_iff {X Y : Int → Int} {n : Int} : lnB X Y n = true ↔ ∀ i, 0 ≤ i → i < n → trn (X 0) (Y 0) (X (n - 1)) (Y (n - 1)) (X i) (Y i) = 0 := by
  unfold lnB
  rw [allB_iff]
  exact ⟨fun h i a b => of_decide_eq_true (h i a b), fun h i a b => decide_eq_true (h i a b)⟩
/-- The program's line and the reference's triples. -/
theorem ic_sc (X Y : Int → Int) (n : Int) : icB X Y n = scB X Y n := by
  by_cases hn : n ≤ 0
  · have h1 : icB X Y n = true := by
      unfold icB
      rw [lnB_iff]
      intro i h0 h1
      obtain ⟨j, hj, _⟩ := i_in h0 h1
      omega
    have h2 : scB X Y n = true := by rw [scB_iff]; intro i k m hi; omega
    rw [h1, h2]
  have hpos := iN_pos (X := X) (Y := Y) (n := n) (by omega)
  have key : icB X Y n = true ↔ scB X Y n = true := by
    rw [scB_iff]
    unfold icB
    rw [lnB_iff]
    constructor
    · intro h i k m hi hk hm
      obtain ⟨i', hi', ei1, ei2⟩ := i_out (X := X) (Y := Y) hi.1 hi.2
      obtain ⟨k', hk', ek1, ek2⟩ := i_out (X := X) (Y := Y) hk.1 hk.2
      obtain ⟨m', hm', em1, em2⟩ := i_out (X := X) (Y := Y) hm.1 hm.2
      rw [← ei1, ← ei2, ← ek1, ← ek2, ← em1, ← em2]
      by_cases hone : iN X Y n = 1
      · rw [show i' = 0 by omega, show k' = 0 by omega]
        exact (trn_same _ _ _ _).1
      · refine trn_all (fun hc => ?_) (h i' hi'.1 hi'.2) (h k' hk'.1 hk'.2) (h m' hm'.1 hm'.2)
        have := ltP_iff.1 (i_srt X Y n 0 (iN X Y n - 1) (by omega) (by omega) (by omega))
        omega
    · intro h i h0 h1
      obtain ⟨a, ha, a1, a2⟩ := i_in (X := X) (Y := Y) (n := n) (show (0 : Int) ≤ 0 by omega) hpos
      obtain ⟨b, hb, b1, b2⟩ := i_in (X := X) (Y := Y) (n := n) (i := iN X Y n - 1) (by omega) (by omega)
      obtain ⟨c, hc, c1, c2⟩ := i_in (X := X) (Y := Y) (n := n) h0 h1
      rw [← a1, ← a2, ← b1, ← b2, ← c1, ← c2]
      exact h a b c ha hb hc
  cases h1 : icB X Y n with
  | true => rw [key.1 h1]
  | false =>
    cases h2 : scB X Y n with
    | true => rw [key.2 h2] at h1; cases h1
    | false => rfl

theorem collinear1 (X : Int → Int) (Y : Int → Int) (n : Int) (pX : Int) (pY : Int) (hp : 0 < n) : RunsTo Try.prog 100 [(.agg [(.int .i64 (.v fun _ => pX) (-1000) 1000), (.int .i64 (.v fun _ => pY) (-1000) 1000)]), (.ptr 0 1 (.lit 0) 0)] [some ⟨24, 1, true, (.lit [[(.sl 1 2 (.lit 0) (.v fun _ => n) 1048576)]])⟩, some ⟨35, 2, true, (.sym (.v fun _ => n) fun e => [(.int .i64 (.v fun _ => (X (e.den))) (-1000) 1000), (.int .i64 (.v fun _ => (Y (e.den))) (-1000) 1000)])⟩] (.bool (.v fun _ => !(decide (trn (X (0)) (Y (0)) (X (n - 1)) (Y (n - 1)) pX pY = 0)))) [some ⟨24, 1, true, (.lit [[(.sl 1 2 (.lit 0) (.v fun _ => n) 1048576)]])⟩, some ⟨35, 2, true, (.sym (.v fun _ => n) fun e => [(.int .i64 (.v fun _ => (X (e.den))) (-1000) 1000), (.int .i64 (.v fun _ => (Y (e.den))) (-1000) 1000)])⟩] := by
  refine RunsTo.go env Try.func100 rfl Try.call100 rfl rfl (fun _ _ => (.need (.need (.need (.need (.call (c_i_turn ((X (0))) ((Y (0))) ((X (n - 1))) ((Y (n - 1))) pX pY) .ret)))))) (G := (((-1000) ≤ pX ∧ pX ≤ 1000) ∧ ((-1000) ≤ pY ∧ pY ≤ 1000)) → ((0 ≤ n ∧ n ≤ 1048576) ∧ (∀ e2 : E, ((0 ≤ e2.den ∧ e2.den < n) → (((-1000) ≤ ((X (e2.den))) ∧ ((X (e2.den))) ≤ 1000) ∧ ((-1000) ≤ ((Y (e2.den))) ∧ ((Y (e2.den))) ≤ 1000))))) → ((0 < n) ∧ ((0 < n) ∧ ((((0 ≤ (n - 1)) ∧ ((n - 1) < n))) ∧ (((n - 1) < n) ∧ ((((((X (0))) = ((X (0)))) ∧ (((Y (0))) = ((Y (0))))) ∧ (((((X (n - 1))) = ((X (n - 1)))) ∧ (((Y (n - 1))) = ((Y (n - 1))))) ∧ ((pX = pX) ∧ (pY = pY)))) ∧ ((((trn ((X (0))) ((Y (0))) ((X (n - 1))) ((Y (n - 1))) pX pY) ≠ 0) ↔ ((!(decide (trn (X (0)) (Y (0)) (X (n - 1)) (Y (n - 1)) pX pY = 0))) = true)) ∧ ((n = n) ∧ ((n ≤ n) ∧ (∀ e1 : E, ((0 ≤ e1.den ∧ e1.den < n) → ((((X (e1.den))) = ((X (e1.den)))) ∧ (((Y (e1.den))) = ((Y (e1.den)))))))))))))))) (by kernel_rfl) ?_
  intro h1 h2
  refine ⟨?_, ?_, ?_, ?_, ⟨⟨rfl, rfl⟩, ⟨⟨rfl, rfl⟩, ⟨rfl, rfl⟩⟩⟩, ?_, rfl, Int.le_refl _, fun _ => fun _ => ⟨rfl, rfl⟩⟩
  · omega
  · omega
  · omega
  · omega
  · simp; done
def c_collinear1 (X : Int → Int) (Y : Int → Int) (n : Int) (pX : Int) (pY : Int) : CnH Try.prog := ⟨_, _, _, _, _, _, collinear1 X Y n pX pY⟩
theorem IndexFunc_c (X : Int → Int) (Y : Int → Int) (n : Int) : RunsTo Try.prog 124 [(.sl 0 2 (.lit 0) (.v fun _ => n) 1048576), (.fn 100 [(.ptr 1 1 (.lit 0) 0)])] [some ⟨35, 2, true, (.sym (.v fun _ => n) fun e => [(.int .i64 (.v fun _ => (X (e.den))) (-1000) 1000), (.int .i64 (.v fun _ => (Y (e.den))) (-1000) 1000)])⟩, some ⟨24, 1, true, (.lit [[(.sl 0 2 (.lit 0) (.v fun _ => n) 1048576)]])⟩] (.int .i64 (.v fun _ => fidx (fun i => !(decide (trn (X (0)) (Y (0)) (X (n - 1)) (Y (n - 1)) (X (i)) (Y (i)) = 0))) n) (-1) 1048576) [some ⟨35, 2, true, (.sym (.v fun _ => n) fun e => [(.int .i64 (.v fun _ => (X (e.den))) (-1000) 1000), (.int .i64 (.v fun _ => (Y (e.den))) (-1000) 1000)])⟩, some ⟨24, 1, true, (.lit [[(.sl 0 2 (.lit 0) (.v fun _ => n) 1048576)]])⟩] := by
  refine RunsTo.go env Try.func124 rfl Try.call124 rfl rfl (fun _ _ => (.loop [] [0, 1] (Int) (fun x1 => ⟨spl 19 0 [(0, (.sl 0 2 (.lit 0) (.v fun _ => n) 1048576)), (1, (.fn 100 [(.ptr 1 1 (.lit 0) 0)])), (7, (.int .i64 (.v fun _ => n) 0 1048576)), (8, (.int .i64 (.v fun _ => x1) 0 1048576))], [some ⟨35, 2, true, (.sym (.v fun _ => n) fun e => [(.int .i64 (.v fun _ => (X (e.den))) (-1000) 1000), (.int .i64 (.v fun _ => (Y (e.den))) (-1000) 1000)])⟩, some ⟨24, 1, true, (.lit [[(.sl 0 2 (.lit 0) (.v fun _ => n) 1048576)]])⟩], 2⟩) (fun x1 => (0 ≤ x1 ∧ x1 ≤ n) ∧ ∀ i, 0 ≤ i → i < x1 → (!(decide (trn (X (0)) (Y (0)) (X (n - 1)) (Y (n - 1)) (X (i)) (Y (i)) = 0))) = false) (fun x1 => (n - x1).toNat) fun x1 => (.ite (.need (.need (.callH (c_collinear1 X Y n ((X (x1))) ((Y (x1)))) (.ite (.out .ret) (.next [0, 1]))))) (.out .ret)))) (G := (0 ≤ n ∧ n ≤ 1048576) → ((∀ e9 : E, ((0 ≤ e9.den ∧ e9.den < n) → (((-1000) ≤ ((X (e9.den))) ∧ ((X (e9.den))) ≤ 1000) ∧ ((-1000) ≤ ((Y (e9.den))) ∧ ((Y (e9.den))) ≤ 1000)))) ∧ (0 ≤ n ∧ n ≤ 1048576)) → ((∃ y2 : Int, (((0 ≤ y2 ∧ y2 ≤ n) ∧ ∀ i, 0 ≤ i → i < y2 → (!(decide (trn (X (0)) (Y (0)) (X (n - 1)) (Y (n - 1)) (X (i)) (Y (i)) = 0))) = false) ∧ (((n = n) ∧ ((n = n) ∧ ((0 : Int) = y2))) ∧ (((n ≤ n) ∧ (∀ e3 : E, ((0 ≤ e3.den ∧ e3.den < n) → ((((X (e3.den))) = ((X (e3.den)))) ∧ (((Y (e3.den))) = ((Y (e3.den)))))))) ∧ (n = n))))) ∧ (∀ x1 : Int, (((0 ≤ x1 ∧ x1 ≤ n) ∧ ∀ i, 0 ≤ i → i < x1 → (!(decide (trn (X (0)) (Y (0)) (X (n - 1)) (Y (n - 1)) (X (i)) (Y (i)) = 0))) = false) → (((x1 < n) → ((((0 ≤ x1) ∧ (x1 < n))) ∧ ((x1 < n) ∧ ((0 < n) ∧ (((((X (x1))) = ((X (x1)))) ∧ (((Y (x1))) = ((Y (x1))))) ∧ (((n = n) ∧ ((n ≤ n) ∧ (∀ e4 : E, ((0 ≤ e4.den ∧ e4.den < n) → ((((X (e4.den))) = ((X (e4.den)))) ∧ (((Y (e4.den))) = ((Y (e4.den))))))))) ∧ ((((!(decide (trn ((X (0))) ((Y (0))) ((X (n - 1))) ((Y (n - 1))) ((X (x1))) ((Y (x1))) = 0))) = true) → ((x1 = (fidx (fun i => !(decide (trn (X (0)) (Y (0)) (X (n - 1)) (Y (n - 1)) (X (i)) (Y (i)) = 0))) n)) ∧ (((n ≤ n) ∧ (∀ e5 : E, ((0 ≤ e5.den ∧ e5.den < n) → ((((X (e5.den))) = ((X (e5.den)))) ∧ (((Y (e5.den))) = ((Y (e5.den)))))))) ∧ (n = n)))) ∧ (((!(decide (trn ((X (0))) ((Y (0))) ((X (n - 1))) ((Y (n - 1))) ((X (x1))) ((Y (x1))) = 0))) = false) → (∃ y6 : Int, (((0 ≤ y6 ∧ y6 ≤ n) ∧ ∀ i, 0 ≤ i → i < y6 → (!(decide (trn (X (0)) (Y (0)) (X (n - 1)) (Y (n - 1)) (X (i)) (Y (i)) = 0))) = false) ∧ ((((n = n) ∧ ((n = n) ∧ (((x1 + 1) = y6) ∧ ((1 ≤ (x1 + 1) ∧ (x1 + 1) ≤ 1048577) → (0 ≤ y6 ∧ y6 ≤ 1048576))))) ∧ (((n ≤ n) ∧ (∀ e7 : E, ((0 ≤ e7.den ∧ e7.den < n) → ((((X (e7.den))) = ((X (e7.den)))) ∧ (((Y (e7.den))) = ((Y (e7.den)))))))) ∧ (n = n))) ∧ ((n - y6).toNat < (n - x1).toNat)))))))))))) ∧ ((n ≤ x1) → ((((-1) : Int) = (fidx (fun i => !(decide (trn (X (0)) (Y (0)) (X (n - 1)) (Y (n - 1)) (X (i)) (Y (i)) = 0))) n)) ∧ (((n ≤ n) ∧ (∀ e8 : E, ((0 ≤ e8.den ∧ e8.den < n) → ((((X (e8.den))) = ((X (e8.den)))) ∧ (((Y (e8.den))) = ((Y (e8.den)))))))) ∧ (n = n))))))))) (by kernel_rfl) ?_
  intro h1 h2
  have hb := fidx_bd (fun i => !(decide (trn (X (0)) (Y (0)) (X (n - 1)) (Y (n - 1)) (X (i)) (Y (i)) = 0))) h1.1
  refine ⟨?_, ?_⟩
  · refine ⟨0, ?_⟩
    try dsimp only
    refine ⟨?_, ?_, ⟨Int.le_refl _, fun _ => fun _ => ⟨rfl, rfl⟩⟩, rfl⟩
    · exact ⟨by omega, fun i a b => by omega⟩
    · refine ⟨rfl, rfl, ?_⟩
      rfl
  · intro j
    intro I1
    refine ⟨?_, ?_⟩
    · intro c10
      refine ⟨?_, ?_, ?_, ⟨rfl, rfl⟩, ⟨rfl, ⟨Int.le_refl _, fun _ => fun _ => ⟨rfl, rfl⟩⟩⟩, ?_, ?_⟩
      · omega
      · omega
      · omega
      · intro c11
        refine ⟨?_, ⟨Int.le_refl _, fun _ => fun _ => ⟨rfl, rfl⟩⟩, rfl⟩
        exact (fidx_found I1.1.1 (by omega) (by assumption) I1.2).symm
      · intro c12
        refine ⟨j + 1, ?_⟩
        try dsimp only
        refine ⟨?_, ?_, ?_⟩
        · refine ⟨by omega, fun i a b => ?_⟩; by_cases e : i = j; (subst e; assumption); exact I1.2 i a (by omega)
        · refine ⟨?_, ⟨Int.le_refl _, fun _ => fun _ => ⟨rfl, rfl⟩⟩, rfl⟩
          refine ⟨rfl, rfl, ?_, ?_⟩
          · rfl
          · intro c13
            omega
        · omega
    · intro c14
      refine ⟨?_, ⟨Int.le_refl _, fun _ => fun _ => ⟨rfl, rfl⟩⟩, rfl⟩
      exact (fidx_none fun i a b => I1.2 i a (by omega)).symm
def c_IndexFunc_c (X : Int → Int) (Y : Int → Int) (n : Int) : Cn Try.prog := ⟨_, _, _, _, _, IndexFunc_c X Y n⟩
theorem ContainsFunc_c (X : Int → Int) (Y : Int → Int) (n : Int) : RunsTo Try.prog 99 [(.sl 0 2 (.lit 0) (.v fun _ => n) 1048576), (.fn 100 [(.ptr 1 1 (.lit 0) 0)])] [some ⟨35, 2, true, (.sym (.v fun _ => n) fun e => [(.int .i64 (.v fun _ => (X (e.den))) (-1000) 1000), (.int .i64 (.v fun _ => (Y (e.den))) (-1000) 1000)])⟩, some ⟨24, 1, true, (.lit [[(.sl 0 2 (.lit 0) (.v fun _ => n) 1048576)]])⟩] (.bool (.v fun _ => decide (0 ≤ fidx (fun i => !(decide (trn (X (0)) (Y (0)) (X (n - 1)) (Y (n - 1)) (X (i)) (Y (i)) = 0))) n))) [some ⟨35, 2, true, (.sym (.v fun _ => n) fun e => [(.int .i64 (.v fun _ => (X (e.den))) (-1000) 1000), (.int .i64 (.v fun _ => (Y (e.den))) (-1000) 1000)])⟩, some ⟨24, 1, true, (.lit [[(.sl 0 2 (.lit 0) (.v fun _ => n) 1048576)]])⟩] := by
  refine RunsTo.go env Try.func99 rfl Try.call99 rfl rfl (fun _ _ => (.call (c_IndexFunc_c X Y n) .ret)) (G := (0 ≤ n ∧ n ≤ 1048576) → ((∀ e3 : E, ((0 ≤ e3.den ∧ e3.den < n) → (((-1000) ≤ ((X (e3.den))) ∧ ((X (e3.den))) ≤ 1000) ∧ ((-1000) ≤ ((Y (e3.den))) ∧ ((Y (e3.den))) ≤ 1000)))) ∧ (0 ≤ n ∧ n ≤ 1048576)) → ((n = n) ∧ ((((n ≤ n) ∧ (∀ e1 : E, ((0 ≤ e1.den ∧ e1.den < n) → ((((X (e1.den))) = ((X (e1.den)))) ∧ (((Y (e1.den))) = ((Y (e1.den)))))))) ∧ (n = n)) ∧ (((0 ≤ (fidx (fun i => !(decide (trn ((X (0))) ((Y (0))) ((X (n - 1))) ((Y (n - 1))) ((X (i))) ((Y (i))) = 0))) n)) ↔ ((decide (0 ≤ fidx (fun i => !(decide (trn (X (0)) (Y (0)) (X (n - 1)) (Y (n - 1)) (X (i)) (Y (i)) = 0))) n)) = true)) ∧ (((n ≤ n) ∧ (∀ e2 : E, ((0 ≤ e2.den ∧ e2.den < n) → ((((X (e2.den))) = ((X (e2.den)))) ∧ (((Y (e2.den))) = ((Y (e2.den)))))))) ∧ (n = n)))))) (by kernel_rfl) ?_
  intro h1 h2
  refine ⟨rfl, ⟨⟨Int.le_refl _, fun _ => fun _ => ⟨rfl, rfl⟩⟩, rfl⟩, ?_, ⟨Int.le_refl _, fun _ => fun _ => ⟨rfl, rfl⟩⟩, rfl⟩
  -- 1: (0 ≤ (fidx (fun i => !(decide (trn ((X (0))) ((Y (0))) ((X (n - 1))) ((Y (n - 1))) ((X (i))) ((Y (i)
  simp
def c_ContainsFunc_c (X : Int → Int) (Y : Int → Int) (n : Int) : Cn Try.prog := ⟨_, _, _, _, _, ContainsFunc_c X Y n⟩
theorem i_collinear (X : Int → Int) (Y : Int → Int) (n : Int) : RunsTo Try.prog 57 [(.sl 0 2 (.lit 0) (.v fun _ => n) 1048576)] [some ⟨35, 2, true, (.sym (.v fun _ => n) fun e => [(.int .i64 (.v fun _ => (X (e.den))) (-1000) 1000), (.int .i64 (.v fun _ => (Y (e.den))) (-1000) 1000)])⟩] (.bool (.v fun _ => icB X Y n)) [some ⟨35, 2, true, (.sym (.v fun _ => n) fun e => [(.int .i64 (.v fun _ => (X (e.den))) (-1000) 1000), (.int .i64 (.v fun _ => (Y (e.den))) (-1000) 1000)])⟩] := by
  refine RunsTo.go env Try.func57 rfl Try.call57 rfl rfl (fun _ _ => (.callF (c_i_sorted X Y n) (.call (c_ContainsFunc_c (iX X Y n) (iY X Y n) (iN X Y n)) .ret))) (G := (0 ≤ n ∧ n ≤ 1048576) → (∀ e4 : E, ((0 ≤ e4.den ∧ e4.den < n) → (((-1000) ≤ ((X (e4.den))) ∧ ((X (e4.den))) ≤ 1000) ∧ ((-1000) ≤ ((Y (e4.den))) ∧ ((Y (e4.den))) ≤ 1000)))) → ((n = n) ∧ (((n ≤ n) ∧ (∀ e1 : E, ((0 ≤ e1.den ∧ e1.den < n) → ((((X (e1.den))) = ((X (e1.den)))) ∧ (((Y (e1.den))) = ((Y (e1.den)))))))) ∧ ((0 ≤ (iN X Y n) ∧ (iN X Y n) ≤ 1048576) → (((iN X Y n) = (iN X Y n)) ∧ (((((iN X Y n) ≤ (iN X Y n)) ∧ (∀ e2 : E, ((0 ≤ e2.den ∧ e2.den < (iN X Y n)) → ((((iX X Y n (e2.den)) = (iX X Y n ((e2.den)))) ∧ (((-9223372036854775808) ≤ (iX X Y n (e2.den)) ∧ (iX X Y n (e2.den)) ≤ 9223372036854775807) → ((-1000) ≤ (iX X Y n ((e2.den))) ∧ (iX X Y n ((e2.den))) ≤ 1000))) ∧ (((iY X Y n (e2.den)) = (iY X Y n ((e2.den)))) ∧ (((-9223372036854775808) ≤ (iY X Y n (e2.den)) ∧ (iY X Y n (e2.den)) ≤ 9223372036854775807) → ((-1000) ≤ (iY X Y n ((e2.den))) ∧ (iY X Y n ((e2.den))) ≤ 1000))))))) ∧ ((iN X Y n) = (iN X Y n))) ∧ ((((decide (0 ≤ fidx (fun i => !(decide (trn (iX X Y n (0)) (iY X Y n (0)) (iX X Y n (((iN X Y n) - 1))) (iY X Y n (((iN X Y n) - 1))) (iX X Y n (i)) (iY X Y n (i)) = 0))) (iN X Y n))) = false) ↔ ((icB X Y n) = true)) ∧ ((n ≤ n) ∧ (∀ e3 : E, ((0 ≤ e3.den ∧ e3.den < n) → (((((X (e3.den))) = ((X (e3.den)))) ∧ (((-9223372036854775808) ≤ ((X (e3.den))) ∧ ((X (e3.den))) ≤ 9223372036854775807) → ((-1000) ≤ ((X (e3.den))) ∧ ((X (e3.den))) ≤ 1000))) ∧ ((((Y (e3.den))) = ((Y (e3.den)))) ∧ (((-9223372036854775808) ≤ ((Y (e3.den))) ∧ ((Y (e3.den))) ≤ 9223372036854775807) → ((-1000) ≤ ((Y (e3.den))) ∧ ((Y (e3.den))) ≤ 1000)))))))))))))) (by kernel_rfl) ?_
  intro h1 h2
  refine ⟨rfl, ⟨Int.le_refl _, fun _ => fun _ => ⟨rfl, rfl⟩⟩, ?_⟩
  intro c5
  refine ⟨rfl, ?_, ?_, Int.le_refl _, ?_⟩
  · refine ⟨?_, rfl⟩
    refine ⟨Int.le_refl _, ?_⟩
    intro e2
    intro c6
    refine ⟨?_, rfl, ?_⟩
    · refine ⟨rfl, ?_⟩
      intro c7
      have hb := iX_bd (X := X) (Y := Y) (n := n) (lo := -1000) (hi := 1000) (lo2 := -1000) (hi2 := 1000) (fun j a b => h2 (.lit j) ⟨a, b⟩) (i := e2.den) (by omega) (by omega); omega
    · intro c8
      have hb := iX_bd (X := X) (Y := Y) (n := n) (lo := -1000) (hi := 1000) (lo2 := -1000) (hi2 := 1000) (fun j a b => h2 (.lit j) ⟨a, b⟩) (i := e2.den) (by omega) (by omega); omega
  · unfold icB lnB; rw [← fidx_neg]; simp; done
  · intro e3
    intro c9
    refine ⟨?_, rfl, ?_⟩
    · refine ⟨rfl, ?_⟩
      intro c10
      exact (h2 _ (by assumption)).1
    · intro c11
      exact (h2 _ (by assumption)).2
def c_i_collinear (X : Int → Int) (Y : Int → Int) (n : Int) : Cn Try.prog := ⟨_, _, _, _, _, i_collinear X Y n⟩
theorem s_collinear (X : Int → Int) (Y : Int → Int) (n : Int) : RunsTo Try.prog 56 [(.sl 0 2 (.lit 0) (.v fun _ => n) 1048576)] [some ⟨35, 2, true, (.sym (.v fun _ => n) fun e => [(.int .i64 (.v fun _ => (X (e.den))) (-1000) 1000), (.int .i64 (.v fun _ => (Y (e.den))) (-1000) 1000)])⟩] (.bool (.v fun _ => scB X Y n)) [some ⟨35, 2, true, (.sym (.v fun _ => n) fun e => [(.int .i64 (.v fun _ => (X (e.den))) (-1000) 1000), (.int .i64 (.v fun _ => (Y (e.den))) (-1000) 1000)])⟩] := by
  refine RunsTo.go env Try.func56 rfl Try.call56 rfl rfl (fun _ _ => (.loop [] [0] (Int) (fun x1 => ⟨spl 36 0 [(0, (.sl 0 2 (.lit 0) (.v fun _ => n) 1048576)), (3, (.int .i64 (.v fun _ => x1) 0 1048576))], [some ⟨35, 2, true, (.sym (.v fun _ => n) fun e => [(.int .i64 (.v fun _ => (X (e.den))) (-1000) 1000), (.int .i64 (.v fun _ => (Y (e.den))) (-1000) 1000)])⟩], 1⟩) (fun x1 => (0 ≤ x1 ∧ x1 ≤ n) ∧ ∀ i, 0 ≤ i → i < x1 → allB (fun k => allB (tcB X Y i k) k) i = true) (fun x1 => (n - x1).toNat) fun x1 => (.ite (.loop [] [0] (Int) (fun x4 => ⟨spl 36 0 [(0, (.sl 0 2 (.lit 0) (.v fun _ => n) 1048576)), (3, (.int .i64 (.v fun _ => x1) 0 1048576)), (4, (.int .i64 (.v fun _ => x4) 0 1048576)), (6, (.int .i64 (.v fun _ => x1) 0 1048576)), (7, (.sl 0 2 (.lit 0) (.v fun _ => n) 1048576)), (8, (.int .i64 (.v fun _ => n) 0 1048576)), (9, (.bool (.lt (.v fun _ => x1) (.v fun _ => n))))], [some ⟨35, 2, true, (.sym (.v fun _ => n) fun e => [(.int .i64 (.v fun _ => (X (e.den))) (-1000) 1000), (.int .i64 (.v fun _ => (Y (e.den))) (-1000) 1000)])⟩], 1⟩) (fun x4 => (0 ≤ x4 ∧ x4 ≤ x1 ∧ x1 < n) ∧ ∀ i, 0 ≤ i → i < x4 → allB (tcB X Y x1 i) i = true) (fun x4 => (x1 - x4).toNat) fun x4 => (.ite (.loop [] [0] (Int) (fun x7 => ⟨spl 36 0 [(0, (.sl 0 2 (.lit 0) (.v fun _ => n) 1048576)), (3, (.int .i64 (.v fun _ => x1) 0 1048576)), (4, (.int .i64 (.v fun _ => x4) 0 1048576)), (5, (.int .i64 (.v fun _ => x7) 0 1048576)), (6, (.int .i64 (.v fun _ => x1) 0 1048576)), (7, (.sl 0 2 (.lit 0) (.v fun _ => n) 1048576)), (8, (.int .i64 (.v fun _ => n) 0 1048576)), (9, (.bool (.lt (.v fun _ => x1) (.v fun _ => n)))), (12, (.int .i64 (.v fun _ => x4) 0 1048576)), (13, (.int .i64 (.v fun _ => x1) 0 1048576)), (14, (.bool (.lt (.v fun _ => x4) (.v fun _ => x1))))], [some ⟨35, 2, true, (.sym (.v fun _ => n) fun e => [(.int .i64 (.v fun _ => (X (e.den))) (-1000) 1000), (.int .i64 (.v fun _ => (Y (e.den))) (-1000) 1000)])⟩], 1⟩) (fun x7 => (0 ≤ x7 ∧ x7 ≤ x4 ∧ x4 < x1) ∧ ∀ i, 0 ≤ i → i < x7 → tcB X Y x1 x4 i = true) (fun x7 => (x4 - x7).toNat) fun x7 => (.ite (.need (.need (.need (.need (.need (.need (.callF (c_s_cross ((X (x1))) ((Y (x1))) ((X (x4))) ((Y (x4))) ((X (x7))) ((Y (x7)))) (.ite (.out (.out (.out .ret))) (.next [0]))))))))) (.out (.next [0])))) (.out (.next [0])))) (.out .ret)))) (G := (0 ≤ n ∧ n ≤ 1048576) → (∀ e18 : E, ((0 ≤ e18.den ∧ e18.den < n) → (((-1000) ≤ ((X (e18.den))) ∧ ((X (e18.den))) ≤ 1000) ∧ ((-1000) ≤ ((Y (e18.den))) ∧ ((Y (e18.den))) ≤ 1000)))) → ((∃ y2 : Int, (((0 ≤ y2 ∧ y2 ≤ n) ∧ ∀ i, 0 ≤ i → i < y2 → allB (fun k => allB (tcB X Y i k) k) i = true) ∧ (((n = n) ∧ ((0 : Int) = y2)) ∧ ((n ≤ n) ∧ (∀ e3 : E, ((0 ≤ e3.den ∧ e3.den < n) → ((((X (e3.den))) = ((X (e3.den)))) ∧ (((Y (e3.den))) = ((Y (e3.den))))))))))) ∧ (∀ x1 : Int, (((0 ≤ x1 ∧ x1 ≤ n) ∧ ∀ i, 0 ≤ i → i < x1 → allB (fun k => allB (tcB X Y i k) k) i = true) → (((x1 < n) → ((∃ y5 : Int, (((0 ≤ y5 ∧ y5 ≤ x1 ∧ x1 < n) ∧ ∀ i, 0 ≤ i → i < y5 → allB (tcB X Y x1 i) i = true) ∧ (((n = n) ∧ ((x1 = x1) ∧ (((0 : Int) = y5) ∧ ((x1 = x1) ∧ ((n = n) ∧ ((n = n) ∧ ((x1 < n) ↔ (x1 < n)))))))) ∧ ((n ≤ n) ∧ (∀ e6 : E, ((0 ≤ e6.den ∧ e6.den < n) → ((((X (e6.den))) = ((X (e6.den)))) ∧ (((Y (e6.den))) = ((Y (e6.den))))))))))) ∧ (∀ x4 : Int, (((0 ≤ x4 ∧ x4 ≤ x1 ∧ x1 < n) ∧ ∀ i, 0 ≤ i → i < x4 → allB (tcB X Y x1 i) i = true) → (((x4 < x1) → ((∃ y8 : Int, (((0 ≤ y8 ∧ y8 ≤ x4 ∧ x4 < x1) ∧ ∀ i, 0 ≤ i → i < y8 → tcB X Y x1 x4 i = true) ∧ (((n = n) ∧ ((x1 = x1) ∧ ((x4 = x4) ∧ (((0 : Int) = y8) ∧ ((x1 = x1) ∧ ((n = n) ∧ ((n = n) ∧ (((x1 < n) ↔ (x1 < n)) ∧ ((x4 = x4) ∧ ((x1 = x1) ∧ ((x4 < x1) ↔ (x4 < x1)))))))))))) ∧ ((n ≤ n) ∧ (∀ e9 : E, ((0 ≤ e9.den ∧ e9.den < n) → ((((X (e9.den))) = ((X (e9.den)))) ∧ (((Y (e9.den))) = ((Y (e9.den))))))))))) ∧ (∀ x7 : Int, (((0 ≤ x7 ∧ x7 ≤ x4 ∧ x4 < x1) ∧ ∀ i, 0 ≤ i → i < x7 → tcB X Y x1 x4 i = true) → (((x7 < x4) → ((((0 ≤ x1) ∧ (x1 < n))) ∧ ((x1 < n) ∧ ((((0 ≤ x4) ∧ (x4 < n))) ∧ ((x4 < n) ∧ ((((0 ≤ x7) ∧ (x7 < n))) ∧ ((x7 < n) ∧ ((((((X (x1))) = ((X (x1)))) ∧ (((Y (x1))) = ((Y (x1))))) ∧ (((((X (x4))) = ((X (x4)))) ∧ (((Y (x4))) = ((Y (x4))))) ∧ ((((X (x7))) = ((X (x7)))) ∧ (((Y (x7))) = ((Y (x7))))))) ∧ (((-128000000) ≤ (trn ((X (x1))) ((Y (x1))) ((X (x4))) ((Y (x4))) ((X (x7))) ((Y (x7)))) ∧ (trn ((X (x1))) ((Y (x1))) ((X (x4))) ((Y (x4))) ((X (x7))) ((Y (x7)))) ≤ 128000000) → ((((trn ((X (x1))) ((Y (x1))) ((X (x4))) ((Y (x4))) ((X (x7))) ((Y (x7)))) ≠ 0) → (((scB X Y n) = false) ∧ ((n ≤ n) ∧ (∀ e10 : E, ((0 ≤ e10.den ∧ e10.den < n) → ((((X (e10.den))) = ((X (e10.den)))) ∧ (((Y (e10.den))) = ((Y (e10.den)))))))))) ∧ (((trn ((X (x1))) ((Y (x1))) ((X (x4))) ((Y (x4))) ((X (x7))) ((Y (x7)))) = 0) → (∃ y11 : Int, (((0 ≤ y11 ∧ y11 ≤ x4 ∧ x4 < x1) ∧ ∀ i, 0 ≤ i → i < y11 → tcB X Y x1 x4 i = true) ∧ ((((n = n) ∧ ((x1 = x1) ∧ ((x4 = x4) ∧ ((((x7 + 1) = y11) ∧ ((1 ≤ (x7 + 1) ∧ (x7 + 1) ≤ 1048577) → (0 ≤ y11 ∧ y11 ≤ 1048576))) ∧ ((x1 = x1) ∧ ((n = n) ∧ ((n = n) ∧ (((x1 < n) ↔ (x1 < n)) ∧ ((x4 = x4) ∧ ((x1 = x1) ∧ ((x4 < x1) ↔ (x4 < x1)))))))))))) ∧ ((n ≤ n) ∧ (∀ e12 : E, ((0 ≤ e12.den ∧ e12.den < n) → ((((X (e12.den))) = ((X (e12.den)))) ∧ (((Y (e12.den))) = ((Y (e12.den))))))))) ∧ ((x4 - y11).toNat < (x4 - x7).toNat))))))))))))))) ∧ ((x4 ≤ x7) → (∃ y13 : Int, (((0 ≤ y13 ∧ y13 ≤ x1 ∧ x1 < n) ∧ ∀ i, 0 ≤ i → i < y13 → allB (tcB X Y x1 i) i = true) ∧ ((((n = n) ∧ ((x1 = x1) ∧ ((((x4 + 1) = y13) ∧ ((1 ≤ (x4 + 1) ∧ (x4 + 1) ≤ 1048577) → (0 ≤ y13 ∧ y13 ≤ 1048576))) ∧ ((x1 = x1) ∧ ((n = n) ∧ ((n = n) ∧ ((x1 < n) ↔ (x1 < n)))))))) ∧ ((n ≤ n) ∧ (∀ e14 : E, ((0 ≤ e14.den ∧ e14.den < n) → ((((X (e14.den))) = ((X (e14.den)))) ∧ (((Y (e14.den))) = ((Y (e14.den))))))))) ∧ ((x1 - y13).toNat < (x1 - x4).toNat)))))))))) ∧ ((x1 ≤ x4) → (∃ y15 : Int, (((0 ≤ y15 ∧ y15 ≤ n) ∧ ∀ i, 0 ≤ i → i < y15 → allB (fun k => allB (tcB X Y i k) k) i = true) ∧ ((((n = n) ∧ (((x1 + 1) = y15) ∧ ((1 ≤ (x1 + 1) ∧ (x1 + 1) ≤ 1048577) → (0 ≤ y15 ∧ y15 ≤ 1048576)))) ∧ ((n ≤ n) ∧ (∀ e16 : E, ((0 ≤ e16.den ∧ e16.den < n) → ((((X (e16.den))) = ((X (e16.den)))) ∧ (((Y (e16.den))) = ((Y (e16.den))))))))) ∧ ((n - y15).toNat < (n - x1).toNat)))))))))) ∧ ((n ≤ x1) → (((scB X Y n) = true) ∧ ((n ≤ n) ∧ (∀ e17 : E, ((0 ≤ e17.den ∧ e17.den < n) → ((((X (e17.den))) = ((X (e17.den)))) ∧ (((Y (e17.den))) = ((Y (e17.den))))))))))))))) (by kernel_rfl) ?_
  intro h1 h2
  refine ⟨?_, ?_⟩
  · refine ⟨0, ?_⟩
    try dsimp only
    refine ⟨?_, ?_, Int.le_refl _, fun _ => fun _ => ⟨rfl, rfl⟩⟩
    · exact ⟨by omega, fun i a b => by omega⟩
    · refine ⟨rfl, ?_⟩
      rfl
  · intro j
    intro I1
    refine ⟨?_, ?_⟩
    · intro c19
      refine ⟨?_, ?_⟩
      · refine ⟨0, ?_⟩
        try dsimp only
        refine ⟨?_, ?_, Int.le_refl _, fun _ => fun _ => ⟨rfl, rfl⟩⟩
        · exact ⟨by omega, fun i a b => by omega⟩
        · refine ⟨rfl, rfl, ?_, rfl, rfl, rfl, Iff.rfl⟩
          rfl
      · intro k
        intro I2
        refine ⟨?_, ?_⟩
        · intro c20
          refine ⟨?_, ?_⟩
          · refine ⟨0, ?_⟩
            try dsimp only
            refine ⟨?_, ?_, Int.le_refl _, fun _ => fun _ => ⟨rfl, rfl⟩⟩
            · exact ⟨by omega, fun i a b => by omega⟩
            · refine ⟨rfl, rfl, rfl, ?_, rfl, rfl, rfl, Iff.rfl, rfl, rfl, Iff.rfl⟩
              rfl
          · intro m
            intro I3
            refine ⟨?_, ?_⟩
            · intro c21
              refine ⟨?_, ?_, ?_, ?_, ?_, ?_, ⟨⟨rfl, rfl⟩, ⟨⟨rfl, rfl⟩, ⟨rfl, rfl⟩⟩⟩, ?_⟩
              · omega
              · omega
              · omega
              · omega
              · omega
              · omega
              · intro c22
                refine ⟨?_, ?_⟩
                · intro c23
                  refine ⟨?_, Int.le_refl _, fun _ => fun _ => ⟨rfl, rfl⟩⟩
                  unfold scB; first | exact allB_iff.2 (fun q a b => I1.2 q a (by omega)) | exact (allB_iff.2 (fun q a b => I1.2 q a (by omega))).symm | exact allB_false I1.1.1 (by omega) (allB_false I2.1.1 (by omega) (allB_false I3.1.1 (by omega) (decide_eq_false (by assumption))))
                · intro c24
                  refine ⟨m + 1, ?_⟩
                  try dsimp only
                  refine ⟨?_, ?_, ?_⟩
                  · refine ⟨by omega, fun i a b => ?_⟩; first | (exfalso; omega) | (by_cases e : i = j; (rw [e]; exact allB_iff.2 (fun q a b => I2.2 q a (by omega))); exact I1.2 i a (by omega)) | (by_cases e : i = k; (rw [e]; exact allB_iff.2 (fun q a b => I3.2 q a (by omega))); exact I2.2 i a (by omega)) | (by_cases e : i = m; (rw [e]; exact decide_eq_true (by assumption)); exact I3.2 i a (by omega))
                  · refine ⟨?_, Int.le_refl _, fun _ => fun _ => ⟨rfl, rfl⟩⟩
                    refine ⟨rfl, rfl, rfl, ?_, rfl, rfl, rfl, Iff.rfl, rfl, rfl, Iff.rfl⟩
                    refine ⟨?_, ?_⟩
                    · rfl
                    · intro c25
                      omega
                  · omega
            · intro c26
              refine ⟨k + 1, ?_⟩
              try dsimp only
              refine ⟨?_, ?_, ?_⟩
              · refine ⟨by omega, fun i a b => ?_⟩; first | (exfalso; omega) | (by_cases e : i = j; (rw [e]; exact allB_iff.2 (fun q a b => I2.2 q a (by omega))); exact I1.2 i a (by omega)) | (by_cases e : i = k; (rw [e]; exact allB_iff.2 (fun q a b => I3.2 q a (by omega))); exact I2.2 i a (by omega)) | (by_cases e : i = m; (rw [e]; exact decide_eq_true (by assumption)); exact I3.2 i a (by omega))
              · refine ⟨?_, Int.le_refl _, fun _ => fun _ => ⟨rfl, rfl⟩⟩
                refine ⟨rfl, rfl, ?_, rfl, rfl, rfl, Iff.rfl⟩
                refine ⟨?_, ?_⟩
                · rfl
                · intro c27
                  omega
              · omega
        · intro c28
          refine ⟨j + 1, ?_⟩
          try dsimp only
          refine ⟨?_, ?_, ?_⟩
          · refine ⟨by omega, fun i a b => ?_⟩; first | (exfalso; omega) | (by_cases e : i = j; (rw [e]; exact allB_iff.2 (fun q a b => I2.2 q a (by omega))); exact I1.2 i a (by omega)) | (by_cases e : i = k; (rw [e]; exact allB_iff.2 (fun q a b => I3.2 q a (by omega))); exact I2.2 i a (by omega)) | (by_cases e : i = m; (rw [e]; exact decide_eq_true (by assumption)); exact I3.2 i a (by omega))
          · refine ⟨?_, Int.le_refl _, fun _ => fun _ => ⟨rfl, rfl⟩⟩
            refine ⟨rfl, ?_, ?_⟩
            · rfl
            · intro c29
              omega
          · omega
    · intro c30
      refine ⟨?_, Int.le_refl _, fun _ => fun _ => ⟨rfl, rfl⟩⟩
      unfold scB; first | exact allB_iff.2 (fun q a b => I1.2 q a (by omega)) | exact (allB_iff.2 (fun q a b => I1.2 q a (by omega))).symm | exact allB_false I1.1.1 (by omega) (allB_false I2.1.1 (by omega) (allB_false I3.1.1 (by omega) (decide_eq_false (by assumption))))
def c_s_collinear (X : Int → Int) (Y : Int → Int) (n : Int) : Cn Try.prog := ⟨_, _, _, _, _, s_collinear X Y n⟩
theorem i_Collinear (X : Int → Int) (Y : Int → Int) (n : Int) : RunsTo Try.prog 23 [(.sl 0 2 (.lit 0) (.v fun _ => n) 1048576)] [some ⟨35, 2, true, (.sym (.v fun _ => n) fun e => [(.int .i64 (.v fun _ => (X (e.den))) (-9223372036854775808) 9223372036854775807), (.int .i64 (.v fun _ => (Y (e.den))) (-9223372036854775808) 9223372036854775807)])⟩] (.bool (.v fun _ => listB X Y n && icB X Y n)) [some ⟨35, 2, true, (.sym (.v fun _ => n) fun e => [(.int .i64 (.v fun _ => (X (e.den))) (-9223372036854775808) 9223372036854775807), (.int .i64 (.v fun _ => (Y (e.den))) (-9223372036854775808) 9223372036854775807)])⟩] := by
  refine RunsTo.go env Try.func23 rfl Try.call23 rfl rfl (fun _ _ => (.call (c_i_listOk X Y n) (.ite (.call (c_i_collinear X Y n) .ret) .ret))) (G := (0 ≤ n ∧ n ≤ 1048576) → (∀ e5 : E, ((0 ≤ e5.den ∧ e5.den < n) → (((-9223372036854775808) ≤ ((X (e5.den))) ∧ ((X (e5.den))) ≤ 9223372036854775807) ∧ ((-9223372036854775808) ≤ ((Y (e5.den))) ∧ ((Y (e5.den))) ≤ 9223372036854775807)))) → ((n = n) ∧ (((n ≤ n) ∧ (∀ e1 : E, ((0 ≤ e1.den ∧ e1.den < n) → ((((X (e1.den))) = ((X (e1.den)))) ∧ (((Y (e1.den))) = ((Y (e1.den)))))))) ∧ ((((listB X Y n) = true) → ((n = n) ∧ (((n ≤ n) ∧ (∀ e2 : E, ((0 ≤ e2.den ∧ e2.den < n) → (((((X (e2.den))) = ((X (e2.den)))) ∧ (((-9223372036854775808) ≤ ((X (e2.den))) ∧ ((X (e2.den))) ≤ 9223372036854775807) → ((-1000) ≤ ((X (e2.den))) ∧ ((X (e2.den))) ≤ 1000))) ∧ ((((Y (e2.den))) = ((Y (e2.den)))) ∧ (((-9223372036854775808) ≤ ((Y (e2.den))) ∧ ((Y (e2.den))) ≤ 9223372036854775807) → ((-1000) ≤ ((Y (e2.den))) ∧ ((Y (e2.den))) ≤ 1000))))))) ∧ ((((icB X Y n) = true) ↔ ((listB X Y n && icB X Y n) = true)) ∧ ((n ≤ n) ∧ (∀ e3 : E, ((0 ≤ e3.den ∧ e3.den < n) → ((((X (e3.den))) = ((X (e3.den)))) ∧ (((Y (e3.den))) = ((Y (e3.den)))))))))))) ∧ (((listB X Y n) = false) → (((listB X Y n && icB X Y n) = false) ∧ ((n ≤ n) ∧ (∀ e4 : E, ((0 ≤ e4.den ∧ e4.den < n) → ((((X (e4.den))) = ((X (e4.den)))) ∧ (((Y (e4.den))) = ((Y (e4.den)))))))))))))) (by kernel_rfl) ?_
  intro h1 h2
  refine ⟨rfl, ⟨Int.le_refl _, fun _ => fun _ => ⟨rfl, rfl⟩⟩, ?_, ?_⟩
  · intro c6
    refine ⟨rfl, ?_, ?_, Int.le_refl _, fun _ => fun _ => ⟨rfl, rfl⟩⟩
    · refine ⟨Int.le_refl _, ?_⟩
      intro e2
      intro c7
      refine ⟨?_, rfl, ?_⟩
      · refine ⟨rfl, ?_⟩
        intro c8
        have hj := listB_bd (show listB X Y n = true by assumption) (i := e2.den) (by omega) (by omega); omega
      · intro c9
        have hj := listB_bd (show listB X Y n = true by assumption) (i := e2.den) (by omega) (by omega); omega
    · simp [*]; done
  · intro c10
    refine ⟨?_, Int.le_refl _, fun _ => fun _ => ⟨rfl, rfl⟩⟩
    simp [*]; done
def c_i_Collinear (X : Int → Int) (Y : Int → Int) (n : Int) : Cn Try.prog := ⟨_, _, _, _, _, i_Collinear X Y n⟩
theorem s_Collinear (X : Int → Int) (Y : Int → Int) (n : Int) : RunsTo Try.prog 22 [(.sl 0 2 (.lit 0) (.v fun _ => n) 1048576)] [some ⟨35, 2, true, (.sym (.v fun _ => n) fun e => [(.int .i64 (.v fun _ => (X (e.den))) (-9223372036854775808) 9223372036854775807), (.int .i64 (.v fun _ => (Y (e.den))) (-9223372036854775808) 9223372036854775807)])⟩] (.bool (.v fun _ => listB X Y n && icB X Y n)) [some ⟨35, 2, true, (.sym (.v fun _ => n) fun e => [(.int .i64 (.v fun _ => (X (e.den))) (-9223372036854775808) 9223372036854775807), (.int .i64 (.v fun _ => (Y (e.den))) (-9223372036854775808) 9223372036854775807)])⟩] := by
  refine RunsTo.go env Try.func22 rfl Try.call22 rfl rfl (fun _ _ => (.call (c_s_validPoints X Y n) (.ite (.call (c_s_collinear X Y n) .ret) .ret))) (G := (0 ≤ n ∧ n ≤ 1048576) → (∀ e5 : E, ((0 ≤ e5.den ∧ e5.den < n) → (((-9223372036854775808) ≤ ((X (e5.den))) ∧ ((X (e5.den))) ≤ 9223372036854775807) ∧ ((-9223372036854775808) ≤ ((Y (e5.den))) ∧ ((Y (e5.den))) ≤ 9223372036854775807)))) → ((n = n) ∧ (((n ≤ n) ∧ (∀ e1 : E, ((0 ≤ e1.den ∧ e1.den < n) → ((((X (e1.den))) = ((X (e1.den)))) ∧ (((Y (e1.den))) = ((Y (e1.den)))))))) ∧ ((((listB X Y n) = true) → ((n = n) ∧ (((n ≤ n) ∧ (∀ e2 : E, ((0 ≤ e2.den ∧ e2.den < n) → (((((X (e2.den))) = ((X (e2.den)))) ∧ (((-9223372036854775808) ≤ ((X (e2.den))) ∧ ((X (e2.den))) ≤ 9223372036854775807) → ((-1000) ≤ ((X (e2.den))) ∧ ((X (e2.den))) ≤ 1000))) ∧ ((((Y (e2.den))) = ((Y (e2.den)))) ∧ (((-9223372036854775808) ≤ ((Y (e2.den))) ∧ ((Y (e2.den))) ≤ 9223372036854775807) → ((-1000) ≤ ((Y (e2.den))) ∧ ((Y (e2.den))) ≤ 1000))))))) ∧ ((((scB X Y n) = true) ↔ ((listB X Y n && icB X Y n) = true)) ∧ ((n ≤ n) ∧ (∀ e3 : E, ((0 ≤ e3.den ∧ e3.den < n) → ((((X (e3.den))) = ((X (e3.den)))) ∧ (((Y (e3.den))) = ((Y (e3.den)))))))))))) ∧ (((listB X Y n) = false) → (((listB X Y n && icB X Y n) = false) ∧ ((n ≤ n) ∧ (∀ e4 : E, ((0 ≤ e4.den ∧ e4.den < n) → ((((X (e4.den))) = ((X (e4.den)))) ∧ (((Y (e4.den))) = ((Y (e4.den)))))))))))))) (by kernel_rfl) ?_
  intro h1 h2
  refine ⟨rfl, ⟨Int.le_refl _, fun _ => fun _ => ⟨rfl, rfl⟩⟩, ?_, ?_⟩
  · intro c6
    refine ⟨rfl, ?_, ?_, Int.le_refl _, fun _ => fun _ => ⟨rfl, rfl⟩⟩
    · refine ⟨Int.le_refl _, ?_⟩
      intro e2
      intro c7
      refine ⟨?_, rfl, ?_⟩
      · refine ⟨rfl, ?_⟩
        intro c8
        have hj := listB_bd (show listB X Y n = true by assumption) (i := e2.den) (by omega) (by omega); omega
      · intro c9
        have hj := listB_bd (show listB X Y n = true by assumption) (i := e2.den) (by omega) (by omega); omega
    · simp [*, ic_sc]; done
  · intro c10
    refine ⟨?_, Int.le_refl _, fun _ => fun _ => ⟨rfl, rfl⟩⟩
    simp [*]; done
def c_s_Collinear (X : Int → Int) (Y : Int → Int) (n : Int) : Cn Try.prog := ⟨_, _, _, _, _, s_Collinear X Y n⟩
end Go.Proofs.Ytpnjopppclmfkaa
