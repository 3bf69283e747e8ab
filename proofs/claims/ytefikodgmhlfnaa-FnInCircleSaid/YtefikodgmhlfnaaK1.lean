/- Contracts: numbers and points, the program's and the reference's. -/
import Derived.Test.YtefikodgmhlfnaaTy
import Derived.Test.YtefikodgmhlfnaaYg
set_option linter.unusedSimpArgs false
set_option linter.unusedVariables false
set_option maxRecDepth 100000
namespace Go.Proofs.Ytefikodgmhlfnaa
open Go.Sym
def sgn (n : Int) : Int := if n < 0 then -1 else if n > 0 then 1 else 0
def okP (x y : Int) : Bool := decide (-1000 ≤ x) && decide (x ≤ 1000) && decide (-1000 ≤ y) && decide (y ≤ 1000)
def trn (ax ay bx bY cx cy : Int) : Int := (bx - ax) * (cy - ay) - (bY - ay) * (cx - ax)
/-- One of a list. -/
def selL (l : List Int) (i : Int) : Int := l.getD i.toNat 0
def dst (ax ay bx bY : Int) : Int := (bx - ax) * (bx - ax) + (bY - ay) * (bY - ay)
theorem okP_iff {x y : Int} : okP x y = true ↔ -1000 ≤ x ∧ x ≤ 1000 ∧ -1000 ≤ y ∧ y ≤ 1000 := by unfold okP; simp [and_assoc]
theorem okP_ff {x y : Int} : okP x y = false ↔ ¬ (-1000 ≤ x ∧ x ≤ 1000 ∧ -1000 ≤ y ∧ y ≤ 1000) := by rw [← okP_iff]; simp
theorem c_isNaN (x : Int) : RunsTo Try.prog 31 [(.int .i64 (.v fun _ => x) (-9223372036854775808) 9223372036854775807)] [] (.bool (.lit false)) [] := by
  refine RunsTo.go env Try.func31 rfl Try.call31 rfl rfl (fun _ _ => .ret) (G := ((-9223372036854775808) ≤ x ∧ x ≤ 9223372036854775807) → (True) → (x = x)) (by kernel_rfl) ?_
  intro h1 h2
  -- 1: x = x
  omega
def c_c_isNaN (x : Int) : Cn Try.prog := ⟨_, _, _, _, _, c_isNaN x⟩
theorem c_Compare (x : Int) (y : Int) : RunsTo Try.prog 30 [(.int .i64 (.v fun _ => x) (-9223372036854775808) 9223372036854775807), (.int .i64 (.v fun _ => y) (-9223372036854775808) 9223372036854775807)] [] (.int .i64 (.v fun _ => if x < y then -1 else if x > y then 1 else 0) (-1) 1) [] := by
  refine RunsTo.go env Try.func30 rfl Try.call30 rfl rfl (fun _ _ => (.call (c_c_isNaN x) (.call (c_c_isNaN y) (.ite .ret (.ite .ret .ret))))) (G := (((-9223372036854775808) ≤ x ∧ x ≤ 9223372036854775807) ∧ ((-9223372036854775808) ≤ y ∧ y ≤ 9223372036854775807)) → (True) → ((x = x) ∧ ((y = y) ∧ (((x < y) → (((-1) : Int) = (if x < y then -1 else if x > y then 1 else 0))) ∧ ((y ≤ x) → (((y < x) → ((1 : Int) = (if x < y then -1 else if x > y then 1 else 0))) ∧ ((x ≤ y) → ((0 : Int) = (if x < y then -1 else if x > y then 1 else 0))))))))) (by kernel_rfl) ?_
  intro h1 h2
  refine ⟨rfl, rfl, ?_, ?_⟩
  · intro c1
    -- 1: ((-1) : Int) = (if x < y then -1 else if x > y then 1 else 0)
    split <;> (try split) <;> omega
  · intro c2
    refine ⟨?_, ?_⟩
    · intro c3
      -- 2: (1 : Int) = (if x < y then -1 else if x > y then 1 else 0)
      split <;> (try split) <;> omega
    · intro c4
      -- 3: (0 : Int) = (if x < y then -1 else if x > y then 1 else 0)
      split <;> (try split) <;> omega
def c_c_Compare (x : Int) (y : Int) : Cn Try.prog := ⟨_, _, _, _, _, c_Compare x y⟩
theorem i_sign (n : Int) : RunsTo Try.prog 24 [(.int .i64 (.v fun _ => n) (-9223372036854775808) 9223372036854775807)] [] (.int .i64 (.v fun _ => sgn n) (-1) 1) [] := by
  refine RunsTo.go env Try.func24 rfl Try.call24 rfl rfl (fun _ _ => (.call (c_c_Compare n 0) .ret)) (G := ((-9223372036854775808) ≤ n ∧ n ≤ 9223372036854775807) → (True) → (((n = n) ∧ ((0 : Int) = 0)) ∧ ((if n < 0 then -1 else if n > 0 then 1 else 0) = (sgn n)))) (by kernel_rfl) ?_
  intro h1 h2
  refine ⟨⟨rfl, rfl⟩, ?_⟩
  -- 1: (if n < 0 then -1 else if n > 0 then 1 else 0) = (sgn n)
  unfold sgn; split <;> (try split) <;> omega
def c_i_sign (n : Int) : Cn Try.prog := ⟨_, _, _, _, _, i_sign n⟩
theorem s_sign (n : Int) : RunsTo Try.prog 25 [(.int .i64 (.v fun _ => n) (-9223372036854775808) 9223372036854775807)] [] (.int .i64 (.v fun _ => sgn n) (-1) 1) [] := by
  refine RunsTo.go env Try.func25 rfl Try.call25 rfl rfl (fun _ _ => (.ite .ret (.ite .ret .ret))) (G := ((-9223372036854775808) ≤ n ∧ n ≤ 9223372036854775807) → (True) → (((n < 0) → (((-1) : Int) = (sgn n))) ∧ ((0 ≤ n) → (((0 < n) → ((1 : Int) = (sgn n))) ∧ ((n ≤ 0) → ((0 : Int) = (sgn n))))))) (by kernel_rfl) ?_
  intro h1 h2
  refine ⟨?_, ?_⟩
  · intro c1
    -- 1: ((-1) : Int) = (sgn n)
    unfold sgn; split <;> (try split) <;> omega
  · intro c2
    refine ⟨?_, ?_⟩
    · intro c3
      -- 2: (1 : Int) = (sgn n)
      unfold sgn; split <;> (try split) <;> omega
    · intro c4
      -- 3: (0 : Int) = (sgn n)
      unfold sgn; split <;> (try split) <;> omega
def c_s_sign (n : Int) : Cn Try.prog := ⟨_, _, _, _, _, s_sign n⟩
theorem i_within (n : Int) (lo : Int) (hi : Int) : RunsTo Try.prog 29 [(.int .i64 (.v fun _ => n) (-9223372036854775808) 9223372036854775807), (.int .i64 (.v fun _ => lo) (-9223372036854775808) 9223372036854775807), (.int .i64 (.v fun _ => hi) (-9223372036854775808) 9223372036854775807)] [] (.bool (.v fun _ => decide (lo ≤ n) && decide (n ≤ hi))) [] := by
  refine RunsTo.go env Try.func29 rfl Try.call29 rfl rfl (fun _ _ => (.ite .ret .ret)) (G := (((-9223372036854775808) ≤ n ∧ n ≤ 9223372036854775807) ∧ (((-9223372036854775808) ≤ lo ∧ lo ≤ 9223372036854775807) ∧ ((-9223372036854775808) ≤ hi ∧ hi ≤ 9223372036854775807))) → (True) → (((lo ≤ n) → ((n ≤ hi) ↔ ((decide (lo ≤ n) && decide (n ≤ hi)) = true))) ∧ ((n < lo) → ((decide (lo ≤ n) && decide (n ≤ hi)) = false)))) (by kernel_rfl) ?_
  intro h1 h2
  refine ⟨?_, ?_⟩
  · intro c1
    -- 1: (n ≤ hi) ↔ ((decide (lo ≤ n) && decide (n ≤ hi)) = true)
    simp <;> omega
  · intro c2
    -- 2: (decide (lo ≤ n) && decide (n ≤ hi)) = false
    simp <;> omega
def c_i_within (n : Int) (lo : Int) (hi : Int) : Cn Try.prog := ⟨_, _, _, _, _, i_within n lo hi⟩
theorem s_inRange (n : Int) (lo : Int) (hi : Int) : RunsTo Try.prog 27 [(.int .i64 (.v fun _ => n) (-9223372036854775808) 9223372036854775807), (.int .i64 (.v fun _ => lo) (-9223372036854775808) 9223372036854775807), (.int .i64 (.v fun _ => hi) (-9223372036854775808) 9223372036854775807)] [] (.bool (.v fun _ => decide (lo ≤ n) && decide (n ≤ hi))) [] := by
  refine RunsTo.go env Try.func27 rfl Try.call27 rfl rfl (fun _ _ => (.ite .ret .ret)) (G := (((-9223372036854775808) ≤ n ∧ n ≤ 9223372036854775807) ∧ (((-9223372036854775808) ≤ lo ∧ lo ≤ 9223372036854775807) ∧ ((-9223372036854775808) ≤ hi ∧ hi ≤ 9223372036854775807))) → (True) → (((lo ≤ n) → ((n ≤ hi) ↔ ((decide (lo ≤ n) && decide (n ≤ hi)) = true))) ∧ ((n < lo) → ((decide (lo ≤ n) && decide (n ≤ hi)) = false)))) (by kernel_rfl) ?_
  intro h1 h2
  refine ⟨?_, ?_⟩
  · intro c1
    -- 1: (n ≤ hi) ↔ ((decide (lo ≤ n) && decide (n ≤ hi)) = true)
    simp <;> omega
  · intro c2
    -- 2: (decide (lo ≤ n) && decide (n ≤ hi)) = false
    simp <;> omega
def c_s_inRange (n : Int) (lo : Int) (hi : Int) : Cn Try.prog := ⟨_, _, _, _, _, s_inRange n lo hi⟩
theorem i_valid (pX : Int) (pY : Int) : RunsTo Try.prog 20 [(.agg [(.int .i64 (.v fun _ => pX) (-9223372036854775808) 9223372036854775807), (.int .i64 (.v fun _ => pY) (-9223372036854775808) 9223372036854775807)])] [] (.bool (.v fun _ => okP pX pY)) [] := by
  refine RunsTo.go env Try.func20 rfl Try.call20 rfl rfl (fun _ _ => (.call (c_i_within pX (-1000) 1000) (.ite (.call (c_i_within pY (-1000) 1000) .ret) .ret))) (G := (((-9223372036854775808) ≤ pX ∧ pX ≤ 9223372036854775807) ∧ ((-9223372036854775808) ≤ pY ∧ pY ≤ 9223372036854775807)) → (True) → (((pX = pX) ∧ ((((-1000) : Int) = (-1000)) ∧ ((1000 : Int) = 1000))) ∧ ((((decide ((-1000) ≤ pX) && decide (pX ≤ 1000)) = true) → (((pY = pY) ∧ ((((-1000) : Int) = (-1000)) ∧ ((1000 : Int) = 1000))) ∧ (((decide ((-1000) ≤ pY) && decide (pY ≤ 1000)) = true) ↔ ((okP pX pY) = true)))) ∧ (((decide ((-1000) ≤ pX) && decide (pX ≤ 1000)) = false) → ((okP pX pY) = false))))) (by kernel_rfl) ?_
  intro h1 h2
  refine ⟨⟨rfl, ⟨rfl, rfl⟩⟩, ?_, ?_⟩
  · intro c1
    refine ⟨⟨rfl, ⟨rfl, rfl⟩⟩, ?_⟩
    -- 1: ((decide ((-1000) ≤ pY) && decide (pY ≤ 1000)) = true) ↔ ((okP pX pY) = true)
    first | rw [okP_iff] | rw [okP_ff]
    simp at * <;> omega
  · intro c2
    -- 2: (okP pX pY) = false
    first | rw [okP_iff] | rw [okP_ff]
    simp at * <;> omega
def c_i_valid (pX : Int) (pY : Int) : Cn Try.prog := ⟨_, _, _, _, _, i_valid pX pY⟩
theorem s_validPoint (pX : Int) (pY : Int) : RunsTo Try.prog 14 [(.agg [(.int .i64 (.v fun _ => pX) (-9223372036854775808) 9223372036854775807), (.int .i64 (.v fun _ => pY) (-9223372036854775808) 9223372036854775807)])] [] (.bool (.v fun _ => okP pX pY)) [] := by
  refine RunsTo.go env Try.func14 rfl Try.call14 rfl rfl (fun _ _ => (.call (c_s_inRange pX (-1000) 1000) (.ite (.call (c_s_inRange pY (-1000) 1000) .ret) .ret))) (G := (((-9223372036854775808) ≤ pX ∧ pX ≤ 9223372036854775807) ∧ ((-9223372036854775808) ≤ pY ∧ pY ≤ 9223372036854775807)) → (True) → (((pX = pX) ∧ ((((-1000) : Int) = (-1000)) ∧ ((1000 : Int) = 1000))) ∧ ((((decide ((-1000) ≤ pX) && decide (pX ≤ 1000)) = true) → (((pY = pY) ∧ ((((-1000) : Int) = (-1000)) ∧ ((1000 : Int) = 1000))) ∧ (((decide ((-1000) ≤ pY) && decide (pY ≤ 1000)) = true) ↔ ((okP pX pY) = true)))) ∧ (((decide ((-1000) ≤ pX) && decide (pX ≤ 1000)) = false) → ((okP pX pY) = false))))) (by kernel_rfl) ?_
  intro h1 h2
  refine ⟨⟨rfl, ⟨rfl, rfl⟩⟩, ?_, ?_⟩
  · intro c1
    refine ⟨⟨rfl, ⟨rfl, rfl⟩⟩, ?_⟩
    -- 1: ((decide ((-1000) ≤ pY) && decide (pY ≤ 1000)) = true) ↔ ((okP pX pY) = true)
    first | rw [okP_iff] | rw [okP_ff]
    simp at * <;> omega
  · intro c2
    -- 2: (okP pX pY) = false
    first | rw [okP_iff] | rw [okP_ff]
    simp at * <;> omega
def c_s_validPoint (pX : Int) (pY : Int) : Cn Try.prog := ⟨_, _, _, _, _, s_validPoint pX pY⟩
theorem i_minus (aX : Int) (aY : Int) (bX : Int) (bY : Int) : RunsTo Try.prog 21 [(.agg [(.int .i64 (.v fun _ => aX) (-4000) 4000), (.int .i64 (.v fun _ => aY) (-4000) 4000)]), (.agg [(.int .i64 (.v fun _ => bX) (-4000) 4000), (.int .i64 (.v fun _ => bY) (-4000) 4000)])] [] (.agg [(.int .i64 (.v fun _ => aX - bX) (-8000) 8000), (.int .i64 (.v fun _ => aY - bY) (-8000) 8000)]) [] := by
  refine RunsTo.go env Try.func21 rfl Try.call21 rfl rfl (fun _ _ => .ret) (G := ((((-4000) ≤ aX ∧ aX ≤ 4000) ∧ ((-4000) ≤ aY ∧ aY ≤ 4000)) ∧ (((-4000) ≤ bX ∧ bX ≤ 4000) ∧ ((-4000) ≤ bY ∧ bY ≤ 4000))) → (True) → (((aX - bX) = (aX - bX)) ∧ ((aY - bY) = (aY - bY)))) (by kernel_rfl) ?_
  intro h1 h2
  exact ⟨rfl, rfl⟩
def c_i_minus (aX : Int) (aY : Int) (bX : Int) (bY : Int) : Cn Try.prog := ⟨_, _, _, _, _, i_minus aX aY bX bY⟩
theorem i_dot (aX : Int) (aY : Int) (bX : Int) (bY : Int) : RunsTo Try.prog 23 [(.agg [(.int .i64 (.v fun _ => aX) (-8000) 8000), (.int .i64 (.v fun _ => aY) (-8000) 8000)]), (.agg [(.int .i64 (.v fun _ => bX) (-8000) 8000), (.int .i64 (.v fun _ => bY) (-8000) 8000)])] [] (.int .i64 (.v fun _ => aX * bX + aY * bY) (-128000000) 128000000) [] := by
  refine RunsTo.go env Try.func23 rfl Try.call23 rfl rfl (fun _ _ => .ret) (G := ((((-8000) ≤ aX ∧ aX ≤ 8000) ∧ ((-8000) ≤ aY ∧ aY ≤ 8000)) ∧ (((-8000) ≤ bX ∧ bX ≤ 8000) ∧ ((-8000) ≤ bY ∧ bY ≤ 8000))) → (True) → (((aX * bX) + (aY * bY)) = (aX * bX + aY * bY))) (by kernel_rfl) ?_
  intro h1 h2
  -- 1: ((aX * bX) + (aY * bY)) = (aX * bX + aY * bY)
  omega
def c_i_dot (aX : Int) (aY : Int) (bX : Int) (bY : Int) : Cn Try.prog := ⟨_, _, _, _, _, i_dot aX aY bX bY⟩
theorem i_cross (aX : Int) (aY : Int) (bX : Int) (bY : Int) : RunsTo Try.prog 22 [(.agg [(.int .i64 (.v fun _ => aX) (-8000) 8000), (.int .i64 (.v fun _ => aY) (-8000) 8000)]), (.agg [(.int .i64 (.v fun _ => bX) (-8000) 8000), (.int .i64 (.v fun _ => bY) (-8000) 8000)])] [] (.int .i64 (.v fun _ => aX * bY - aY * bX) (-128000000) 128000000) [] := by
  refine RunsTo.go env Try.func22 rfl Try.call22 rfl rfl (fun _ _ => .ret) (G := ((((-8000) ≤ aX ∧ aX ≤ 8000) ∧ ((-8000) ≤ aY ∧ aY ≤ 8000)) ∧ (((-8000) ≤ bX ∧ bX ≤ 8000) ∧ ((-8000) ≤ bY ∧ bY ≤ 8000))) → (True) → (((aX * bY) - (aY * bX)) = (aX * bY - aY * bX))) (by kernel_rfl) ?_
  intro h1 h2
  -- 1: ((aX * bY) - (aY * bX)) = (aX * bY - aY * bX)
  omega
def c_i_cross (aX : Int) (aY : Int) (bX : Int) (bY : Int) : Cn Try.prog := ⟨_, _, _, _, _, i_cross aX aY bX bY⟩
theorem i_turn (aX : Int) (aY : Int) (bX : Int) (bY : Int) (cX : Int) (cY : Int) : RunsTo Try.prog 11 [(.agg [(.int .i64 (.v fun _ => aX) (-4000) 4000), (.int .i64 (.v fun _ => aY) (-4000) 4000)]), (.agg [(.int .i64 (.v fun _ => bX) (-4000) 4000), (.int .i64 (.v fun _ => bY) (-4000) 4000)]), (.agg [(.int .i64 (.v fun _ => cX) (-4000) 4000), (.int .i64 (.v fun _ => cY) (-4000) 4000)])] [] (.int .i64 (.v fun _ => trn aX aY bX bY cX cY) (-128000000) 128000000) [] := by
  refine RunsTo.go env Try.func11 rfl Try.call11 rfl rfl (fun _ _ => (.call (c_i_minus bX bY aX aY) (.call (c_i_minus cX cY aX aY) (.call (c_i_cross (bX - aX) (bY - aY) (cX - aX) (cY - aY)) .ret)))) (G := ((((-4000) ≤ aX ∧ aX ≤ 4000) ∧ ((-4000) ≤ aY ∧ aY ≤ 4000)) ∧ ((((-4000) ≤ bX ∧ bX ≤ 4000) ∧ ((-4000) ≤ bY ∧ bY ≤ 4000)) ∧ (((-4000) ≤ cX ∧ cX ≤ 4000) ∧ ((-4000) ≤ cY ∧ cY ≤ 4000)))) → (True) → ((((bX = bX) ∧ (bY = bY)) ∧ ((aX = aX) ∧ (aY = aY))) ∧ ((((cX = cX) ∧ (cY = cY)) ∧ ((aX = aX) ∧ (aY = aY))) ∧ (((((bX - aX) = (bX - aX)) ∧ ((bY - aY) = (bY - aY))) ∧ (((cX - aX) = (cX - aX)) ∧ ((cY - aY) = (cY - aY)))) ∧ (((bX - aX) * (cY - aY) - (bY - aY) * (cX - aX)) = (trn aX aY bX bY cX cY)))))) (by kernel_rfl) ?_
  intro h1 h2
  refine ⟨⟨⟨rfl, rfl⟩, ⟨rfl, rfl⟩⟩, ⟨⟨rfl, rfl⟩, ⟨rfl, rfl⟩⟩, ⟨⟨rfl, rfl⟩, ⟨rfl, rfl⟩⟩, ?_⟩
  -- 1: ((bX - aX) * (cY - aY) - (bY - aY) * (cX - aX)) = (trn aX aY bX bY cX cY)
  rfl
def c_i_turn (aX : Int) (aY : Int) (bX : Int) (bY : Int) (cX : Int) (cY : Int) : Cn Try.prog := ⟨_, _, _, _, _, i_turn aX aY bX bY cX cY⟩
theorem s_cross (aX : Int) (aY : Int) (bX : Int) (bY : Int) (cX : Int) (cY : Int) : RunsTo Try.prog 26 [(.agg [(.int .i64 (.v fun _ => aX) (-4000) 4000), (.int .i64 (.v fun _ => aY) (-4000) 4000)]), (.agg [(.int .i64 (.v fun _ => bX) (-4000) 4000), (.int .i64 (.v fun _ => bY) (-4000) 4000)]), (.agg [(.int .i64 (.v fun _ => cX) (-4000) 4000), (.int .i64 (.v fun _ => cY) (-4000) 4000)])] [] (.int .i64 (.v fun _ => trn aX aY bX bY cX cY) (-128000000) 128000000) [] := by
  refine RunsTo.go env Try.func26 rfl Try.call26 rfl rfl (fun _ _ => .ret) (G := ((((-4000) ≤ aX ∧ aX ≤ 4000) ∧ ((-4000) ≤ aY ∧ aY ≤ 4000)) ∧ ((((-4000) ≤ bX ∧ bX ≤ 4000) ∧ ((-4000) ≤ bY ∧ bY ≤ 4000)) ∧ (((-4000) ≤ cX ∧ cX ≤ 4000) ∧ ((-4000) ≤ cY ∧ cY ≤ 4000)))) → (True) → ((((bX - aX) * (cY - aY)) - ((bY - aY) * (cX - aX))) = (trn aX aY bX bY cX cY))) (by kernel_rfl) ?_
  intro h1 h2
  -- 1: (((bX - aX) * (cY - aY)) - ((bY - aY) * (cX - aX))) = (trn aX aY bX bY cX cY)
  rfl
def c_s_cross (aX : Int) (aY : Int) (bX : Int) (bY : Int) (cX : Int) (cY : Int) : Cn Try.prog := ⟨_, _, _, _, _, s_cross aX aY bX bY cX cY⟩
end Go.Proofs.Ytefikodgmhlfnaa
