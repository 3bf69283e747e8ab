/- The order of a tree: the comparison of the program. -/
import Derived.Test.YtljhomjaamjfaaaK91
set_option linter.unusedSimpArgs false
set_option linter.unusedVariables false
set_option maxRecDepth 100000
namespace Go.Proofs.Ytljhomjaamjfaaa
open Go.Sym
def cmpP (ax ay bx bY : Int) : Int := if ax < bx then -1 else if bx < ax then 1 else if ay < bY then -1 else if bY < ay then 1 else 0
def p2 (a b i : Int) : Int := if i = 0 then a else b
theorem cmpP_or {ax ay bx bY : Int} : (if (if ax < bx then -1 else if ax > bx then 1 else 0) = 0 then (if ay < bY then -1 else if ay > bY then 1 else 0) else (if ax < bx then -1 else if ax > bx then 1 else 0) : Int) = cmpP ax ay bx bY := by
  unfold cmpP
  by_cases h1 : ax < bx
  · rw [if_pos h1, if_pos h1, if_neg (by omega)]
  · rw [if_neg h1, if_neg h1]
    by_cases h2 : bx < ax
    · rw [if_pos h2, if_pos h2, if_neg (by omega)]
    · rw [if_neg h2, if_neg h2, if_pos rfl]
theorem or_found {a b j : Int} (h0 : 0 ≤ j) (h1 : j < 2) (hp : ∀ i, 0 ≤ i → i < j → p2 a b i = 0) (hn : p2 a b j ≠ 0) : p2 a b j = if a = 0 then b else a := by
  by_cases e : j = 0
  · subst e
    have e1 : p2 a b 0 = a := rfl
    rw [e1] at hn ⊢
    rw [if_neg hn]
  · have e1 : p2 a b 0 = 0 := hp 0 (by omega) (by omega)
    have e1 : a = 0 := e1
    rw [if_pos e1, p2, if_neg e]
theorem or_none {a b j : Int} (h : 2 ≤ j) (hp : ∀ i, 0 ≤ i → i < j → p2 a b i = 0) : 0 = if a = 0 then b else a := by
  have e0 : a = 0 := hp 0 (by omega) (by omega)
  have e1 : b = 0 := hp 1 (by omega) (by omega)
  rw [if_pos e0, e1]
theorem or_next {a b j : Int} (hp : ∀ i, 0 ≤ i → i < j → p2 a b i = 0) (hn : p2 a b j = 0) : ∀ i, 0 ≤ i → i < j + 1 → p2 a b i = 0 := by
  intro i h0 h1
  by_cases e : i = j
  · rw [e]; exact hn
  · exact hp i h0 (by omega)
/-- The comparison of two indices. -/
def cmK (X Y : Int → Int) (t : Bool) (a b : Int) : Int := if bfK X Y t a b = true then -1 else if bfK X Y t b a = true then 1 else 0
theorem cm_or {p q u v a b : Int} : (if cmpP p q u v = 0 then (if a < b then -1 else if a > b then 1 else 0) else cmpP p q u v : Int) = if p < u ∨ (p = u ∧ (q < v ∨ (q = v ∧ a < b))) then -1 else if u < p ∨ (u = p ∧ (v < q ∨ (v = q ∧ b < a))) then 1 else 0 := by
  unfold cmpP
  by_cases h1 : p < u
  · rw [if_pos h1, if_neg (by omega), if_pos (by omega)]
  · by_cases h2 : u < p
    · rw [if_neg h1, if_pos h2, if_neg (by omega), if_neg (by omega), if_pos (by omega)]
    · by_cases h3 : q < v
      · rw [if_neg h1, if_neg h2, if_pos h3, if_neg (by omega), if_pos (by omega)]
      · by_cases h4 : v < q
        · rw [if_neg h1, if_neg h2, if_neg h3, if_pos h4, if_neg (by omega), if_neg (by omega), if_pos (by omega)]
        · rw [if_neg h1, if_neg h2, if_neg h3, if_neg h4, if_pos rfl]
          by_cases h5 : a < b
          · rw [if_pos h5, if_pos (by omega)]
          · rw [if_neg h5, if_neg (show ¬ (p < u ∨ (p = u ∧ (q < v ∨ (q = v ∧ a < b)))) by omega)]
            by_cases h6 : b < a
            · rw [if_pos (by omega), if_pos (by omega)]
            · rw [if_neg (by omega), if_neg (by omega)]
theorem cmK_eq {X Y : Int → Int} {t : Bool} {a b : Int} : cmK X Y t a b = if cmpP (kx X Y t a) (ky X Y t a) (kx X Y t b) (ky X Y t b) = 0 then (if a < b then -1 else if a > b then 1 else 0) else cmpP (kx X Y t a) (ky X Y t a) (kx X Y t b) (ky X Y t b) := by
  rw [cm_or]
  unfold cmK
  simp only [bfK_iff]
theorem cmK_t {X Y : Int → Int} {t : Bool} {a b : Int} (h : t = true) : (if cmpP (Y a) (X a) (Y b) (X b) = 0 then (if a < b then -1 else if a > b then 1 else 0) else cmpP (Y a) (X a) (Y b) (X b)) = cmK X Y t a b := by
  subst h; rw [cmK_eq]; rfl
theorem cmK_f {X Y : Int → Int} {t : Bool} {a b : Int} (h : t = false) : (if cmpP (X a) (Y a) (X b) (Y b) = 0 then (if a < b then -1 else if a > b then 1 else 0) else cmpP (X a) (Y a) (X b) (Y b)) = cmK X Y t a b := by
  subst h; rw [cmK_eq]; rfl
theorem cmK_bd (X Y : Int → Int) (t : Bool) (a b : Int) : -1 ≤ cmK X Y t a b ∧ cmK X Y t a b ≤ 1 := by
  unfold cmK; split
  · omega
  · split <;> omega
theorem c_Or (a : Int) (b : Int) : RunsTo Try.prog 15 [(.sl 0 1 (.lit 0) (.lit 2) 2)] [some ⟨3, 1, true, (.lit [[(.int .i64 (.v fun _ => a) (-1) 1)], [(.int .i64 (.v fun _ => b) (-1) 1)]])⟩] (.int .i64 (.v fun _ => if a = 0 then b else a) (-1) 1) [some ⟨3, 1, true, (.sym (.lit 2) fun e => [(.int .i64 (.v fun _ => p2 a b e.den) (-1) 1)])⟩] := by
  refine RunsTo.go env Try.func15 rfl Try.call15 rfl rfl (fun _ _ => (.loop [] [0] (Int) (fun x1 => ⟨spl 18 0 [(3, (.int .i64 (.lit 0) 0 0)), (6, (.sl 0 1 (.lit 0) (.lit 2) 2)), (7, (.int .i64 (.lit 2) 0 2)), (8, (.int .i64 (.v fun _ => x1) 0 2))], [some ⟨3, 1, true, (.sym (.lit 2) fun e => [(.int .i64 (.v fun _ => p2 a b (e.den)) (-1) 1)])⟩], 1⟩) (fun x1 => (0 ≤ x1 ∧ x1 ≤ 2) ∧ ∀ i, 0 ≤ i → i < x1 → p2 a b i = 0) (fun x1 => (2 - x1).toNat) fun x1 => (.ite (.need (.need (.ite (.out .ret) (.next [0])))) (.out .ret)))) (G := (True) → (((-1) ≤ a ∧ a ≤ 1) ∧ ((-1) ≤ b ∧ b ≤ 1)) → ((∃ y2 : Int, (((0 ≤ y2 ∧ y2 ≤ 2) ∧ ∀ i, 0 ≤ i → i < y2 → p2 a b i = 0) ∧ (((0 : Int) = y2) ∧ ((∀ e4 : E, ((e4.den = 0) → (a = (p2 a b (e4.den))))) ∧ (∀ e3 : E, ((e3.den = 1) → (b = (p2 a b (e3.den))))))))) ∧ (∀ x1 : Int, (((0 ≤ x1 ∧ x1 ≤ 2) ∧ ∀ i, 0 ≤ i → i < x1 → p2 a b i = 0) → (((x1 < 2) → ((((0 ≤ x1) ∧ (x1 < 2))) ∧ ((x1 < 2) ∧ ((((p2 a b (x1)) ≠ 0) → (((p2 a b (x1)) = (if a = 0 then b else a)) ∧ (((2 : Int) ≤ 2) ∧ (∀ e5 : E, ((0 ≤ e5.den ∧ e5.den < 2) → ((p2 a b (e5.den)) = (p2 a b e5.den))))))) ∧ (((p2 a b (x1)) = 0) → (∃ y6 : Int, (((0 ≤ y6 ∧ y6 ≤ 2) ∧ ∀ i, 0 ≤ i → i < y6 → p2 a b i = 0) ∧ (((((x1 + 1) = y6) ∧ ((1 ≤ (x1 + 1) ∧ (x1 + 1) ≤ 3) → (0 ≤ y6 ∧ y6 ≤ 2))) ∧ (((2 : Int) ≤ 2) ∧ (∀ e7 : E, ((0 ≤ e7.den ∧ e7.den < 2) → ((p2 a b (e7.den)) = (p2 a b (e7.den))))))) ∧ ((2 - y6).toNat < (2 - x1).toNat))))))))) ∧ ((2 ≤ x1) → (((0 : Int) = (if a = 0 then b else a)) ∧ (((2 : Int) ≤ 2) ∧ (∀ e8 : E, ((0 ≤ e8.den ∧ e8.den < 2) → ((p2 a b (e8.den)) = (p2 a b e8.den)))))))))))) (by kernel_rfl) ?_
  intro h1 h2
  refine ⟨?_, ?_⟩
  · refine ⟨0, ?_⟩
    try dsimp only
    refine ⟨?_, ?_, ?_, ?_⟩
    · exact ⟨by omega, fun i a b => by omega⟩
    · rfl
    · intro e4
      intro c9
      unfold p2; rw [if_pos (by assumption)]; done
    · intro e3
      intro c10
      unfold p2; rw [if_neg (by omega)]; done
  · intro j
    intro I1
    refine ⟨?_, ?_⟩
    · intro c11
      refine ⟨?_, ?_, ?_, ?_⟩
      · omega
      · omega
      · intro c12
        refine ⟨?_, Int.le_refl _, fun _ => fun _ => rfl⟩
        exact or_found (by omega) (by omega) I1.2 (by assumption)
      · intro c13
        refine ⟨j + 1, ?_⟩
        try dsimp only
        refine ⟨?_, ?_, ?_⟩
        · exact ⟨by omega, or_next I1.2 (by assumption)⟩
        · refine ⟨?_, Int.le_refl _, fun _ => fun _ => rfl⟩
          refine ⟨?_, ?_⟩
          · rfl
          · intro c14
            omega
        · omega
    · intro c15
      refine ⟨?_, Int.le_refl _, fun _ => fun _ => rfl⟩
      exact or_none (by omega) I1.2
def c_c_Or (a : Int) (b : Int) : Cn Try.prog := ⟨_, _, _, _, _, c_Or a b⟩
theorem i_compare (aX : Int) (aY : Int) (bX : Int) (bY : Int) : RunsTo Try.prog 16 [(.agg [(.int .i64 (.v fun _ => aX) (-9223372036854775808) 9223372036854775807), (.int .i64 (.v fun _ => aY) (-9223372036854775808) 9223372036854775807)]), (.agg [(.int .i64 (.v fun _ => bX) (-9223372036854775808) 9223372036854775807), (.int .i64 (.v fun _ => bY) (-9223372036854775808) 9223372036854775807)])] [] (.int .i64 (.v fun _ => cmpP aX aY bX bY) (-1) 1) [] := by
  refine RunsTo.go env Try.func16 rfl Try.call16 rfl rfl (fun _ _ => (.call (c_c_Compare aX bX) (.call (c_c_Compare aY bY) (.call (c_c_Or (if aX < bX then -1 else if aX > bX then 1 else 0) (if aY < bY then -1 else if aY > bY then 1 else 0)) .ret)))) (G := ((((-9223372036854775808) ≤ aX ∧ aX ≤ 9223372036854775807) ∧ ((-9223372036854775808) ≤ aY ∧ aY ≤ 9223372036854775807)) ∧ (((-9223372036854775808) ≤ bX ∧ bX ≤ 9223372036854775807) ∧ ((-9223372036854775808) ≤ bY ∧ bY ≤ 9223372036854775807))) → (True) → (((aX = aX) ∧ (bX = bX)) ∧ (((aY = aY) ∧ (bY = bY)) ∧ ((((if aX < bX then -1 else if aX > bX then 1 else 0) = (if aX < bX then -1 else if aX > bX then 1 else 0)) ∧ ((if aY < bY then -1 else if aY > bY then 1 else 0) = (if aY < bY then -1 else if aY > bY then 1 else 0))) ∧ ((if (if aX < bX then -1 else if aX > bX then 1 else 0) = 0 then (if aY < bY then -1 else if aY > bY then 1 else 0) else (if aX < bX then -1 else if aX > bX then 1 else 0)) = (cmpP aX aY bX bY)))))) (by kernel_rfl) ?_
  intro h1 h2
  refine ⟨⟨rfl, rfl⟩, ⟨rfl, rfl⟩, ⟨rfl, rfl⟩, ?_⟩
  exact cmpP_or
def c_i_compare (aX : Int) (aY : Int) (bX : Int) (bY : Int) : Cn Try.prog := ⟨_, _, _, _, _, i_compare aX aY bX bY⟩
theorem i_turned (aX : Int) (aY : Int) : RunsTo Try.prog 14 [(.agg [(.int .i64 (.v fun _ => aX) (-9223372036854775808) 9223372036854775807), (.int .i64 (.v fun _ => aY) (-9223372036854775808) 9223372036854775807)])] [] (.agg [(.int .i64 (.v fun _ => aY) (-9223372036854775808) 9223372036854775807), (.int .i64 (.v fun _ => aX) (-9223372036854775808) 9223372036854775807)]) [] := by
  refine RunsTo.go env Try.func14 rfl Try.call14 rfl rfl (fun _ _ => .ret) (G := (((-9223372036854775808) ≤ aX ∧ aX ≤ 9223372036854775807) ∧ ((-9223372036854775808) ≤ aY ∧ aY ≤ 9223372036854775807)) → (True) → ((aY = aY) ∧ (aX = aX))) (by kernel_rfl) ?_
  intro h1 h2
  exact ⟨rfl, rfl⟩
def c_i_turned (aX : Int) (aY : Int) : Cn Try.prog := ⟨_, _, _, _, _, i_turned aX aY⟩
theorem KdOrder11 (X : Int → Int) (Y : Int → Int) (n : Int) (t : Bool) (a : Int) (b : Int) (hp : ((0 : Int) ≤ a ∧ (a : Int) < n) ∧ ((0 : Int) ≤ b ∧ (b : Int) < n)) : RunsTo Try.prog 13 [(.int .i64 (.v fun _ => a) 0 1048576), (.int .i64 (.v fun _ => b) 0 1048576), (.ptr 0 1 (.lit 0) 0), (.ptr 1 1 (.lit 0) 0)] [some ⟨23, 1, false, (.lit [[(.sl 2 2 (.lit 0) (.v fun _ => n) 1048576)]])⟩, some ⟨4, 1, false, (.lit [[(.bool (.v fun _ => t))]])⟩, some ⟨29, 2, false, (.sym (.v fun _ => n) fun e => [(.int .i64 (.v fun _ => (X (e.den))) (-9223372036854775808) 9223372036854775807), (.int .i64 (.v fun _ => (Y (e.den))) (-9223372036854775808) 9223372036854775807)])⟩] (.int .i64 (.v fun _ => cmK X Y t a b) (-1) 1) [some ⟨23, 1, false, (.lit [[(.sl 2 2 (.lit 0) (.v fun _ => n) 1048576)]])⟩, some ⟨4, 1, false, (.lit [[(.bool (.v fun _ => t))]])⟩, some ⟨29, 2, false, (.sym (.v fun _ => n) fun e => [(.int .i64 (.v fun _ => (X (e.den))) (-9223372036854775808) 9223372036854775807), (.int .i64 (.v fun _ => (Y (e.den))) (-9223372036854775808) 9223372036854775807)])⟩] := by
  refine RunsTo.go env Try.func13 rfl Try.call13 rfl rfl (fun _ _ => (.need (.need (.need (.need (.ite (.call (c_i_turned ((X (a))) ((Y (a)))) (.call (c_i_turned ((X (b))) ((Y (b)))) (.call (c_i_compare ((Y (a))) ((X (a))) ((Y (b))) ((X (b)))) (.call (c_c_Compare a b) (.call (c_c_Or (cmpP ((Y (a))) ((X (a))) ((Y (b))) ((X (b)))) (if a < b then -1 else if a > b then 1 else 0)) .ret))))) (.call (c_i_compare ((X (a))) ((Y (a))) ((X (b))) ((Y (b)))) (.call (c_c_Compare a b) (.call (c_c_Or (cmpP ((X (a))) ((Y (a))) ((X (b))) ((Y (b)))) (if a < b then -1 else if a > b then 1 else 0)) .ret))))))))) (G := ((0 ≤ a ∧ a ≤ 1048576) ∧ (0 ≤ b ∧ b ≤ 1048576)) → ((0 ≤ n ∧ n ≤ 1048576) ∧ (∀ e3 : E, ((0 ≤ e3.den ∧ e3.den < n) → (((-9223372036854775808) ≤ ((X (e3.den))) ∧ ((X (e3.den))) ≤ 9223372036854775807) ∧ ((-9223372036854775808) ≤ ((Y (e3.den))) ∧ ((Y (e3.den))) ≤ 9223372036854775807))))) → ((((0 ≤ a) ∧ (a < n))) ∧ ((a < n) ∧ ((((0 ≤ b) ∧ (b < n))) ∧ ((b < n) ∧ (((t = true) → (((((X (a))) = ((X (a)))) ∧ (((Y (a))) = ((Y (a))))) ∧ (((((X (b))) = ((X (b)))) ∧ (((Y (b))) = ((Y (b))))) ∧ ((((((Y (a))) = ((Y (a)))) ∧ (((X (a))) = ((X (a))))) ∧ ((((Y (b))) = ((Y (b)))) ∧ (((X (b))) = ((X (b)))))) ∧ (((a = a) ∧ (b = b)) ∧ ((((cmpP ((Y (a))) ((X (a))) ((Y (b))) ((X (b)))) = (cmpP ((Y (a))) ((X (a))) ((Y (b))) ((X (b))))) ∧ ((if a < b then -1 else if a > b then 1 else 0) = (if a < b then -1 else if a > b then 1 else 0))) ∧ (((if (cmpP ((Y (a))) ((X (a))) ((Y (b))) ((X (b)))) = 0 then (if a < b then -1 else if a > b then 1 else 0) else (cmpP ((Y (a))) ((X (a))) ((Y (b))) ((X (b))))) = (cmK X Y t a b)) ∧ ((n = n) ∧ (((t = true) ↔ (t = true)) ∧ ((n ≤ n) ∧ (∀ e1 : E, ((0 ≤ e1.den ∧ e1.den < n) → ((((X (e1.den))) = ((X (e1.den)))) ∧ (((Y (e1.den))) = ((Y (e1.den))))))))))))))))) ∧ ((t = false) → ((((((X (a))) = ((X (a)))) ∧ (((Y (a))) = ((Y (a))))) ∧ ((((X (b))) = ((X (b)))) ∧ (((Y (b))) = ((Y (b)))))) ∧ (((a = a) ∧ (b = b)) ∧ ((((cmpP ((X (a))) ((Y (a))) ((X (b))) ((Y (b)))) = (cmpP ((X (a))) ((Y (a))) ((X (b))) ((Y (b))))) ∧ ((if a < b then -1 else if a > b then 1 else 0) = (if a < b then -1 else if a > b then 1 else 0))) ∧ (((if (cmpP ((X (a))) ((Y (a))) ((X (b))) ((Y (b)))) = 0 then (if a < b then -1 else if a > b then 1 else 0) else (cmpP ((X (a))) ((Y (a))) ((X (b))) ((Y (b))))) = (cmK X Y t a b)) ∧ ((n = n) ∧ (((t = true) ↔ (t = true)) ∧ ((n ≤ n) ∧ (∀ e2 : E, ((0 ≤ e2.den ∧ e2.den < n) → ((((X (e2.den))) = ((X (e2.den)))) ∧ (((Y (e2.den))) = ((Y (e2.den))))))))))))))))))))) (by kernel_rfl) ?_
  intro h1 h2
  refine ⟨?_, ?_, ?_, ?_, ?_, ?_⟩
    -- 1: ((0 ≤ a) ∧ (a < n))
  · first | rfl | omega | exact cmK_t (by assumption) | exact cmK_f (by assumption) | fail
    -- 2: a < n
  · first | rfl | omega | exact cmK_t (by assumption) | exact cmK_f (by assumption) | fail
    -- 3: ((0 ≤ b) ∧ (b < n))
  · first | rfl | omega | exact cmK_t (by assumption) | exact cmK_f (by assumption) | fail
    -- 4: b < n
  · first | rfl | omega | exact cmK_t (by assumption) | exact cmK_f (by assumption) | fail
  · intro c4
    refine ⟨⟨rfl, rfl⟩, ⟨rfl, rfl⟩, ⟨⟨rfl, rfl⟩, ⟨rfl, rfl⟩⟩, ⟨rfl, rfl⟩, ⟨rfl, rfl⟩, ?_, rfl, Iff.rfl, Int.le_refl _, fun _ => fun _ => ⟨rfl, rfl⟩⟩
    -- 5: (if (cmpP ((Y (a))) ((X (a))) ((Y (b))) ((X (b)))) = 0 then (if a < b then -1 else if a > b then 1 e
    first | rfl | omega | exact cmK_t (by assumption) | exact cmK_f (by assumption) | fail
  · intro c5
    refine ⟨⟨⟨rfl, rfl⟩, ⟨rfl, rfl⟩⟩, ⟨rfl, rfl⟩, ⟨rfl, rfl⟩, ?_, rfl, Iff.rfl, Int.le_refl _, fun _ => fun _ => ⟨rfl, rfl⟩⟩
    -- 6: (if (cmpP ((X (a))) ((Y (a))) ((X (b))) ((Y (b)))) = 0 then (if a < b then -1 else if a > b then 1 e
    first | rfl | omega | exact cmK_t (by assumption) | exact cmK_f (by assumption) | fail
def c_KdOrder11 (X : Int → Int) (Y : Int → Int) (n : Int) (t : Bool) (a : Int) (b : Int) : CnH Try.prog := ⟨_, _, _, _, _, _, KdOrder11 X Y n t a b⟩
end Go.Proofs.Ytljhomjaamjfaaa
