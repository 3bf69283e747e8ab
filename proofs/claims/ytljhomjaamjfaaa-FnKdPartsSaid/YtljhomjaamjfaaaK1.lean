/- Contracts: numbers and points, the program's and the reference's. -/
import Derived.Test.YtljhomjaamjfaaaTy
import Derived.Test.YtljhomjaamjfaaaYg
set_option linter.unusedSimpArgs false
set_option linter.unusedVariables false
set_option maxRecDepth 100000
namespace Go.Proofs.Ytljhomjaamjfaaa
open Go.Sym
def sgn (n : Int) : Int := if n < 0 then -1 else if n > 0 then 1 else 0
def okP (x y : Int) : Bool := decide (-1000 ≤ x) && decide (x ≤ 1000) && decide (-1000 ≤ y) && decide (y ≤ 1000)
def trn (ax ay bx bY cx cy : Int) : Int := (bx - ax) * (cy - ay) - (bY - ay) * (cx - ax)
/-- One of a list. -/
def selL (l : List Int) (i : Int) : Int := l.getD i.toNat 0
def dst (ax ay bx bY : Int) : Int := (bx - ax) * (bx - ax) + (bY - ay) * (bY - ay)
theorem okP_iff {x y : Int} : okP x y = true ↔ -1000 ≤ x ∧ x ≤ 1000 ∧ -1000 ≤ y ∧ y ≤ 1000 := by unfold okP; simp [and_assoc]
theorem okP_ff {x y : Int} : okP x y = false ↔ ¬ (-1000 ≤ x ∧ x ≤ 1000 ∧ -1000 ≤ y ∧ y ≤ 1000) := by rw [← okP_iff]; simp
theorem c_isNaN (x : Int) : RunsTo Try.prog 28 [(.int .i64 (.v fun _ => x) (-9223372036854775808) 9223372036854775807)] [] (.bool (.lit false)) [] := by
  refine RunsTo.go env Try.func28 rfl Try.call28 rfl rfl (fun _ _ => .ret) (G := ((-9223372036854775808) ≤ x ∧ x ≤ 9223372036854775807) → (True) → (x = x)) (by kernel_rfl) ?_
  intro h1 h2
  -- 1: x = x
  omega
def c_c_isNaN (x : Int) : Cn Try.prog := ⟨_, _, _, _, _, c_isNaN x⟩
theorem c_Compare (x : Int) (y : Int) : RunsTo Try.prog 17 [(.int .i64 (.v fun _ => x) (-9223372036854775808) 9223372036854775807), (.int .i64 (.v fun _ => y) (-9223372036854775808) 9223372036854775807)] [] (.int .i64 (.v fun _ => if x < y then -1 else if x > y then 1 else 0) (-1) 1) [] := by
  refine RunsTo.go env Try.func17 rfl Try.call17 rfl rfl (fun _ _ => (.call (c_c_isNaN x) (.call (c_c_isNaN y) (.ite .ret (.ite .ret .ret))))) (G := (((-9223372036854775808) ≤ x ∧ x ≤ 9223372036854775807) ∧ ((-9223372036854775808) ≤ y ∧ y ≤ 9223372036854775807)) → (True) → ((x = x) ∧ ((y = y) ∧ (((x < y) → (((-1) : Int) = (if x < y then -1 else if x > y then 1 else 0))) ∧ ((y ≤ x) → (((y < x) → ((1 : Int) = (if x < y then -1 else if x > y then 1 else 0))) ∧ ((x ≤ y) → ((0 : Int) = (if x < y then -1 else if x > y then 1 else 0))))))))) (by kernel_rfl) ?_
  intro h1 h2
  refine ⟨rfl, rfl, ?_, ?_⟩
  · intro c1
    -- 1: ((-1) : Int) = (if x < y then -1 else if x > y then 1 else 0)
    split <;> (try split) <;> omega
  · intro c2
    refine ⟨?_, ?_⟩
    · intro c3
      -- 2: (1 : Int) = (if x < y then -1 else if x > y then 1 else 0)
      split <;> (try split) <;> omega
    · intro c4
      -- 3: (0 : Int) = (if x < y then -1 else if x > y then 1 else 0)
      split <;> (try split) <;> omega
def c_c_Compare (x : Int) (y : Int) : Cn Try.prog := ⟨_, _, _, _, _, c_Compare x y⟩
theorem i_within (n : Int) (lo : Int) (hi : Int) : RunsTo Try.prog 47 [(.int .i64 (.v fun _ => n) (-9223372036854775808) 9223372036854775807), (.int .i64 (.v fun _ => lo) (-9223372036854775808) 9223372036854775807), (.int .i64 (.v fun _ => hi) (-9223372036854775808) 9223372036854775807)] [] (.bool (.v fun _ => decide (lo ≤ n) && decide (n ≤ hi))) [] := by
  refine RunsTo.go env Try.func47 rfl Try.call47 rfl rfl (fun _ _ => (.ite .ret .ret)) (G := (((-9223372036854775808) ≤ n ∧ n ≤ 9223372036854775807) ∧ (((-9223372036854775808) ≤ lo ∧ lo ≤ 9223372036854775807) ∧ ((-9223372036854775808) ≤ hi ∧ hi ≤ 9223372036854775807))) → (True) → (((lo ≤ n) → ((n ≤ hi) ↔ ((decide (lo ≤ n) && decide (n ≤ hi)) = true))) ∧ ((n < lo) → ((decide (lo ≤ n) && decide (n ≤ hi)) = false)))) (by kernel_rfl) ?_
  intro h1 h2
  refine ⟨?_, ?_⟩
  · intro c1
    -- 1: (n ≤ hi) ↔ ((decide (lo ≤ n) && decide (n ≤ hi)) = true)
    simp <;> omega
  · intro c2
    -- 2: (decide (lo ≤ n) && decide (n ≤ hi)) = false
    simp <;> omega
def c_i_within (n : Int) (lo : Int) (hi : Int) : Cn Try.prog := ⟨_, _, _, _, _, i_within n lo hi⟩
theorem s_inRange (n : Int) (lo : Int) (hi : Int) : RunsTo Try.prog 44 [(.int .i64 (.v fun _ => n) (-9223372036854775808) 9223372036854775807), (.int .i64 (.v fun _ => lo) (-9223372036854775808) 9223372036854775807), (.int .i64 (.v fun _ => hi) (-9223372036854775808) 9223372036854775807)] [] (.bool (.v fun _ => decide (lo ≤ n) && decide (n ≤ hi))) [] := by
  refine RunsTo.go env Try.func44 rfl Try.call44 rfl rfl (fun _ _ => (.ite .ret .ret)) (G := (((-9223372036854775808) ≤ n ∧ n ≤ 9223372036854775807) ∧ (((-9223372036854775808) ≤ lo ∧ lo ≤ 9223372036854775807) ∧ ((-9223372036854775808) ≤ hi ∧ hi ≤ 9223372036854775807))) → (True) → (((lo ≤ n) → ((n ≤ hi) ↔ ((decide (lo ≤ n) && decide (n ≤ hi)) = true))) ∧ ((n < lo) → ((decide (lo ≤ n) && decide (n ≤ hi)) = false)))) (by kernel_rfl) ?_
  intro h1 h2
  refine ⟨?_, ?_⟩
  · intro c1
    -- 1: (n ≤ hi) ↔ ((decide (lo ≤ n) && decide (n ≤ hi)) = true)
    simp <;> omega
  · intro c2
    -- 2: (decide (lo ≤ n) && decide (n ≤ hi)) = false
    simp <;> omega
def c_s_inRange (n : Int) (lo : Int) (hi : Int) : Cn Try.prog := ⟨_, _, _, _, _, s_inRange n lo hi⟩
theorem i_valid (pX : Int) (pY : Int) : RunsTo Try.prog 33 [(.agg [(.int .i64 (.v fun _ => pX) (-9223372036854775808) 9223372036854775807), (.int .i64 (.v fun _ => pY) (-9223372036854775808) 9223372036854775807)])] [] (.bool (.v fun _ => okP pX pY)) [] := by
  refine RunsTo.go env Try.func33 rfl Try.call33 rfl rfl (fun _ _ => (.call (c_i_within pX (-1000) 1000) (.ite (.call (c_i_within pY (-1000) 1000) .ret) .ret))) (G := (((-9223372036854775808) ≤ pX ∧ pX ≤ 9223372036854775807) ∧ ((-9223372036854775808) ≤ pY ∧ pY ≤ 9223372036854775807)) → (True) → (((pX = pX) ∧ ((((-1000) : Int) = (-1000)) ∧ ((1000 : Int) = 1000))) ∧ ((((decide ((-1000) ≤ pX) && decide (pX ≤ 1000)) = true) → (((pY = pY) ∧ ((((-1000) : Int) = (-1000)) ∧ ((1000 : Int) = 1000))) ∧ (((decide ((-1000) ≤ pY) && decide (pY ≤ 1000)) = true) ↔ ((okP pX pY) = true)))) ∧ (((decide ((-1000) ≤ pX) && decide (pX ≤ 1000)) = false) → ((okP pX pY) = false))))) (by kernel_rfl) ?_
  intro h1 h2
  refine ⟨⟨rfl, ⟨rfl, rfl⟩⟩, ?_, ?_⟩
  · intro c1
    refine ⟨⟨rfl, ⟨rfl, rfl⟩⟩, ?_⟩
    -- 1: ((decide ((-1000) ≤ pY) && decide (pY ≤ 1000)) = true) ↔ ((okP pX pY) = true)
    first | rw [okP_iff] | rw [okP_ff]
    simp at * <;> omega
  · intro c2
    -- 2: (okP pX pY) = false
    first | rw [okP_iff] | rw [okP_ff]
    simp at * <;> omega
def c_i_valid (pX : Int) (pY : Int) : Cn Try.prog := ⟨_, _, _, _, _, i_valid pX pY⟩
theorem s_validPoint (pX : Int) (pY : Int) : RunsTo Try.prog 29 [(.agg [(.int .i64 (.v fun _ => pX) (-9223372036854775808) 9223372036854775807), (.int .i64 (.v fun _ => pY) (-9223372036854775808) 9223372036854775807)])] [] (.bool (.v fun _ => okP pX pY)) [] := by
  refine RunsTo.go env Try.func29 rfl Try.call29 rfl rfl (fun _ _ => (.call (c_s_inRange pX (-1000) 1000) (.ite (.call (c_s_inRange pY (-1000) 1000) .ret) .ret))) (G := (((-9223372036854775808) ≤ pX ∧ pX ≤ 9223372036854775807) ∧ ((-9223372036854775808) ≤ pY ∧ pY ≤ 9223372036854775807)) → (True) → (((pX = pX) ∧ ((((-1000) : Int) = (-1000)) ∧ ((1000 : Int) = 1000))) ∧ ((((decide ((-1000) ≤ pX) && decide (pX ≤ 1000)) = true) → (((pY = pY) ∧ ((((-1000) : Int) = (-1000)) ∧ ((1000 : Int) = 1000))) ∧ (((decide ((-1000) ≤ pY) && decide (pY ≤ 1000)) = true) ↔ ((okP pX pY) = true)))) ∧ (((decide ((-1000) ≤ pX) && decide (pX ≤ 1000)) = false) → ((okP pX pY) = false))))) (by kernel_rfl) ?_
  intro h1 h2
  refine ⟨⟨rfl, ⟨rfl, rfl⟩⟩, ?_, ?_⟩
  · intro c1
    refine ⟨⟨rfl, ⟨rfl, rfl⟩⟩, ?_⟩
    -- 1: ((decide ((-1000) ≤ pY) && decide (pY ≤ 1000)) = true) ↔ ((okP pX pY) = true)
    first | rw [okP_iff] | rw [okP_ff]
    simp at * <;> omega
  · intro c2
    -- 2: (okP pX pY) = false
    first | rw [okP_iff] | rw [okP_ff]
    simp at * <;> omega
def c_s_validPoint (pX : Int) (pY : Int) : Cn Try.prog := ⟨_, _, _, _, _, s_validPoint pX pY⟩
end Go.Proofs.Ytljhomjaamjfaaa
