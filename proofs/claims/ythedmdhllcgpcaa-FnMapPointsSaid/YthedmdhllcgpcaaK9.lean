/- Points mapped by a matrix. -/
import Derived.Test.YthedmdhllcgpcaaK2
import Derived.Test.YthedmdhllcgpcaaR3
set_option linter.unusedSimpArgs false
set_option linter.unusedVariables false
set_option maxRecDepth 100000
namespace Go.Proofs.Ythedmdhllcgpcaa
open Go.Sym
def okM (a b c d : Int) : Bool := (decide (-1000 ≤ a) && decide (a ≤ 1000)) && (decide (-1000 ≤ b) && decide (b ≤ 1000)) && (decide (-1000 ≤ c) && decide (c ≤ 1000)) && (decide (-1000 ≤ d) && decide (d ≤ 1000))
theorem okM_iff {a b c d : Int} : okM a b c d = true ↔ (-1000 ≤ a ∧ a ≤ 1000) ∧ (-1000 ≤ b ∧ b ≤ 1000) ∧ (-1000 ≤ c ∧ c ≤ 1000) ∧ (-1000 ≤ d ∧ d ≤ 1000) := by unfold okM; simp [and_assoc]
def mpf (X Y : Int → Int) (a b i : Int) : Int := a * X i + b * Y i
def mpB (X Y : Int → Int) (n a b c d : Int) : Bool := okM a b c d && listB X Y n && listB (mpf X Y a b) (mpf X Y c d) n
def mpN (X Y : Int → Int) (n a b c d : Int) : Int := if mpB X Y n a b c d = true then n else 0
theorem i_Matrix_valid (mA : Int) (mB : Int) (mC : Int) (mD : Int) : RunsTo Try.prog 33 [(.agg [(.int .i64 (.v fun _ => mA) (-9223372036854775808) 9223372036854775807), (.int .i64 (.v fun _ => mB) (-9223372036854775808) 9223372036854775807), (.int .i64 (.v fun _ => mC) (-9223372036854775808) 9223372036854775807), (.int .i64 (.v fun _ => mD) (-9223372036854775808) 9223372036854775807)])] [] (.bool (.v fun _ => okM mA mB mC mD)) [] := by
  refine RunsTo.go env Try.func33 rfl Try.call33 rfl rfl (fun _ _ => (.call (c_i_within mA (-1000) 1000) (.ite (.call (c_i_within mB (-1000) 1000) (.ite (.call (c_i_within mC (-1000) 1000) (.ite (.call (c_i_within mD (-1000) 1000) .ret) .ret)) .ret)) .ret))) (G := (((-9223372036854775808) ≤ mA ∧ mA ≤ 9223372036854775807) ∧ (((-9223372036854775808) ≤ mB ∧ mB ≤ 9223372036854775807) ∧ (((-9223372036854775808) ≤ mC ∧ mC ≤ 9223372036854775807) ∧ ((-9223372036854775808) ≤ mD ∧ mD ≤ 9223372036854775807)))) → (True) → (((mA = mA) ∧ ((((-1000) : Int) = (-1000)) ∧ ((1000 : Int) = 1000))) ∧ ((((decide ((-1000) ≤ mA) && decide (mA ≤ 1000)) = true) → (((mB = mB) ∧ ((((-1000) : Int) = (-1000)) ∧ ((1000 : Int) = 1000))) ∧ ((((decide ((-1000) ≤ mB) && decide (mB ≤ 1000)) = true) → (((mC = mC) ∧ ((((-1000) : Int) = (-1000)) ∧ ((1000 : Int) = 1000))) ∧ ((((decide ((-1000) ≤ mC) && decide (mC ≤ 1000)) = true) → (((mD = mD) ∧ ((((-1000) : Int) = (-1000)) ∧ ((1000 : Int) = 1000))) ∧ (((decide ((-1000) ≤ mD) && decide (mD ≤ 1000)) = true) ↔ ((okM mA mB mC mD) = true)))) ∧ (((decide ((-1000) ≤ mC) && decide (mC ≤ 1000)) = false) → ((okM mA mB mC mD) = false))))) ∧ (((decide ((-1000) ≤ mB) && decide (mB ≤ 1000)) = false) → ((okM mA mB mC mD) = false))))) ∧ (((decide ((-1000) ≤ mA) && decide (mA ≤ 1000)) = false) → ((okM mA mB mC mD) = false))))) (by kernel_rfl) ?_
  intro h1 h2
  refine ⟨⟨rfl, ⟨rfl, rfl⟩⟩, ?_, ?_⟩
  · intro c1
    refine ⟨⟨rfl, ⟨rfl, rfl⟩⟩, ?_, ?_⟩
    · intro c2
      refine ⟨⟨rfl, ⟨rfl, rfl⟩⟩, ?_, ?_⟩
      · intro c3
        refine ⟨⟨rfl, ⟨rfl, rfl⟩⟩, ?_⟩
        -- 1: ((decide ((-1000) ≤ mD) && decide (mD ≤ 1000)) = true) ↔ ((okM mA mB mC mD) = true)
        first | rfl | omega | (simp_all [okM]; done) | (simp_all [okM]; omega)
      · intro c4
        -- 2: (okM mA mB mC mD) = false
        first | rfl | omega | (simp_all [okM]; done) | (simp_all [okM]; omega)
    · intro c5
      -- 3: (okM mA mB mC mD) = false
      first | rfl | omega | (simp_all [okM]; done) | (simp_all [okM]; omega)
  · intro c6
    -- 4: (okM mA mB mC mD) = false
    first | rfl | omega | (simp_all [okM]; done) | (simp_all [okM]; omega)
def c_i_Matrix_valid (mA : Int) (mB : Int) (mC : Int) (mD : Int) : Cn Try.prog := ⟨_, _, _, _, _, i_Matrix_valid mA mB mC mD⟩
theorem s_validMatrix (mA : Int) (mB : Int) (mC : Int) (mD : Int) : RunsTo Try.prog 36 [(.agg [(.int .i64 (.v fun _ => mA) (-9223372036854775808) 9223372036854775807), (.int .i64 (.v fun _ => mB) (-9223372036854775808) 9223372036854775807), (.int .i64 (.v fun _ => mC) (-9223372036854775808) 9223372036854775807), (.int .i64 (.v fun _ => mD) (-9223372036854775808) 9223372036854775807)])] [] (.bool (.v fun _ => okM mA mB mC mD)) [] := by
  refine RunsTo.go env Try.func36 rfl Try.call36 rfl rfl (fun _ _ => (.call (c_s_inRange mA (-1000) 1000) (.ite (.call (c_s_inRange mB (-1000) 1000) (.ite (.call (c_s_inRange mC (-1000) 1000) (.ite (.call (c_s_inRange mD (-1000) 1000) .ret) .ret)) .ret)) .ret))) (G := (((-9223372036854775808) ≤ mA ∧ mA ≤ 9223372036854775807) ∧ (((-9223372036854775808) ≤ mB ∧ mB ≤ 9223372036854775807) ∧ (((-9223372036854775808) ≤ mC ∧ mC ≤ 9223372036854775807) ∧ ((-9223372036854775808) ≤ mD ∧ mD ≤ 9223372036854775807)))) → (True) → (((mA = mA) ∧ ((((-1000) : Int) = (-1000)) ∧ ((1000 : Int) = 1000))) ∧ ((((decide ((-1000) ≤ mA) && decide (mA ≤ 1000)) = true) → (((mB = mB) ∧ ((((-1000) : Int) = (-1000)) ∧ ((1000 : Int) = 1000))) ∧ ((((decide ((-1000) ≤ mB) && decide (mB ≤ 1000)) = true) → (((mC = mC) ∧ ((((-1000) : Int) = (-1000)) ∧ ((1000 : Int) = 1000))) ∧ ((((decide ((-1000) ≤ mC) && decide (mC ≤ 1000)) = true) → (((mD = mD) ∧ ((((-1000) : Int) = (-1000)) ∧ ((1000 : Int) = 1000))) ∧ (((decide ((-1000) ≤ mD) && decide (mD ≤ 1000)) = true) ↔ ((okM mA mB mC mD) = true)))) ∧ (((decide ((-1000) ≤ mC) && decide (mC ≤ 1000)) = false) → ((okM mA mB mC mD) = false))))) ∧ (((decide ((-1000) ≤ mB) && decide (mB ≤ 1000)) = false) → ((okM mA mB mC mD) = false))))) ∧ (((decide ((-1000) ≤ mA) && decide (mA ≤ 1000)) = false) → ((okM mA mB mC mD) = false))))) (by kernel_rfl) ?_
  intro h1 h2
  refine ⟨⟨rfl, ⟨rfl, rfl⟩⟩, ?_, ?_⟩
  · intro c1
    refine ⟨⟨rfl, ⟨rfl, rfl⟩⟩, ?_, ?_⟩
    · intro c2
      refine ⟨⟨rfl, ⟨rfl, rfl⟩⟩, ?_, ?_⟩
      · intro c3
        refine ⟨⟨rfl, ⟨rfl, rfl⟩⟩, ?_⟩
        -- 1: ((decide ((-1000) ≤ mD) && decide (mD ≤ 1000)) = true) ↔ ((okM mA mB mC mD) = true)
        first | rfl | omega | (simp_all [okM]; done) | (simp_all [okM]; omega)
      · intro c4
        -- 2: (okM mA mB mC mD) = false
        first | rfl | omega | (simp_all [okM]; done) | (simp_all [okM]; omega)
    · intro c5
      -- 3: (okM mA mB mC mD) = false
      first | rfl | omega | (simp_all [okM]; done) | (simp_all [okM]; omega)
  · intro c6
    -- 4: (okM mA mB mC mD) = false
    first | rfl | omega | (simp_all [okM]; done) | (simp_all [okM]; omega)
def c_s_validMatrix (mA : Int) (mB : Int) (mC : Int) (mD : Int) : Cn Try.prog := ⟨_, _, _, _, _, s_validMatrix mA mB mC mD⟩
theorem i_times (mA : Int) (mB : Int) (mC : Int) (mD : Int) (pX : Int) (pY : Int) : RunsTo Try.prog 35 [(.agg [(.int .i64 (.v fun _ => mA) (-1000) 1000), (.int .i64 (.v fun _ => mB) (-1000) 1000), (.int .i64 (.v fun _ => mC) (-1000) 1000), (.int .i64 (.v fun _ => mD) (-1000) 1000)]), (.agg [(.int .i64 (.v fun _ => pX) (-1000) 1000), (.int .i64 (.v fun _ => pY) (-1000) 1000)])] [] (.agg [(.int .i64 (.v fun _ => mA * pX + mB * pY) (-2000000) 2000000), (.int .i64 (.v fun _ => mC * pX + mD * pY) (-2000000) 2000000)]) [] := by
  refine RunsTo.go env Try.func35 rfl Try.call35 rfl rfl (fun _ _ => .ret) (G := ((((-1000) ≤ mA ∧ mA ≤ 1000) ∧ (((-1000) ≤ mB ∧ mB ≤ 1000) ∧ (((-1000) ≤ mC ∧ mC ≤ 1000) ∧ ((-1000) ≤ mD ∧ mD ≤ 1000)))) ∧ (((-1000) ≤ pX ∧ pX ≤ 1000) ∧ ((-1000) ≤ pY ∧ pY ≤ 1000))) → (True) → ((((mA * pX) + (mB * pY)) = (mA * pX + mB * pY)) ∧ (((mC * pX) + (mD * pY)) = (mC * pX + mD * pY)))) (by kernel_rfl) ?_
  intro h1 h2
  refine ⟨?_, ?_⟩
    -- 1: ((mA * pX) + (mB * pY)) = (mA * pX + mB * pY)
  · first | rfl | omega
    -- 2: ((mC * pX) + (mD * pY)) = (mC * pX + mD * pY)
  · first | rfl | omega
def c_i_times (mA : Int) (mB : Int) (mC : Int) (mD : Int) (pX : Int) (pY : Int) : Cn Try.prog := ⟨_, _, _, _, _, i_times mA mB mC mD pX pY⟩
theorem s_apply (mA : Int) (mB : Int) (mC : Int) (mD : Int) (pX : Int) (pY : Int) : RunsTo Try.prog 37 [(.agg [(.int .i64 (.v fun _ => mA) (-1000) 1000), (.int .i64 (.v fun _ => mB) (-1000) 1000), (.int .i64 (.v fun _ => mC) (-1000) 1000), (.int .i64 (.v fun _ => mD) (-1000) 1000)]), (.agg [(.int .i64 (.v fun _ => pX) (-1000) 1000), (.int .i64 (.v fun _ => pY) (-1000) 1000)])] [] (.agg [(.int .i64 (.v fun _ => mA * pX + mB * pY) (-2000000) 2000000), (.int .i64 (.v fun _ => mC * pX + mD * pY) (-2000000) 2000000)]) [] := by
  refine RunsTo.go env Try.func37 rfl Try.call37 rfl rfl (fun _ _ => .ret) (G := ((((-1000) ≤ mA ∧ mA ≤ 1000) ∧ (((-1000) ≤ mB ∧ mB ≤ 1000) ∧ (((-1000) ≤ mC ∧ mC ≤ 1000) ∧ ((-1000) ≤ mD ∧ mD ≤ 1000)))) ∧ (((-1000) ≤ pX ∧ pX ≤ 1000) ∧ ((-1000) ≤ pY ∧ pY ≤ 1000))) → (True) → ((((mA * pX) + (mB * pY)) = (mA * pX + mB * pY)) ∧ (((mC * pX) + (mD * pY)) = (mC * pX + mD * pY)))) (by kernel_rfl) ?_
  intro h1 h2
  refine ⟨?_, ?_⟩
    -- 1: ((mA * pX) + (mB * pY)) = (mA * pX + mB * pY)
  · first | rfl | omega
    -- 2: ((mC * pX) + (mD * pY)) = (mC * pX + mD * pY)
  · first | rfl | omega
def c_s_apply (mA : Int) (mB : Int) (mC : Int) (mD : Int) (pX : Int) (pY : Int) : Cn Try.prog := ⟨_, _, _, _, _, s_apply mA mB mC mD pX pY⟩
theorem i_MapPoints (mA : Int) (mB : Int) (mC : Int) (mD : Int) (X : Int → Int) (Y : Int → Int) (n : Int) : RunsTo Try.prog 14 [(.agg [(.int .i64 (.v fun _ => mA) (-9223372036854775808) 9223372036854775807), (.int .i64 (.v fun _ => mB) (-9223372036854775808) 9223372036854775807), (.int .i64 (.v fun _ => mC) (-9223372036854775808) 9223372036854775807), (.int .i64 (.v fun _ => mD) (-9223372036854775808) 9223372036854775807)]), (.sl 0 2 (.lit 0) (.v fun _ => n) 1048576)] [some ⟨48, 2, true, (.sym (.v fun _ => n) fun e => [(.int .i64 (.v fun _ => (X (e.den))) (-9223372036854775808) 9223372036854775807), (.int .i64 (.v fun _ => (Y (e.den))) (-9223372036854775808) 9223372036854775807)])⟩] (.tup [(.sl 1 2 (.lit 0) (.v fun _ => mpN X Y n mA mB mC mD) 1048576), (.bool (.v fun _ => mpB X Y n mA mB mC mD))]) [some ⟨48, 2, true, (.sym (.v fun _ => n) fun e => [(.int .i64 (.v fun _ => (X (e.den))) (-9223372036854775808) 9223372036854775807), (.int .i64 (.v fun _ => (Y (e.den))) (-9223372036854775808) 9223372036854775807)])⟩, some ⟨48, 2, true, (.sym (.v fun _ => mpN X Y n mA mB mC mD) fun e => [(.int .i64 (.v fun _ => mpf X Y mA mB e.den) (-9223372036854775808) 9223372036854775807), (.int .i64 (.v fun _ => mpf X Y mC mD e.den) (-9223372036854775808) 9223372036854775807)])⟩] := by
  refine RunsTo.go env Try.func14 rfl Try.call14 rfl rfl (fun _ _ => (.call (c_i_Matrix_valid mA mB mC mD) (.ite .ret (.call (c_i_listOk X Y n) (.ite .ret (.need (.loop [] [0, 1, 2] (Int) (fun x4 => ⟨spl 37 0 [(2, (.ptr 1 4 (.lit 0) 0)), (4, (.raw (.slice none 0 0))), (5, (.bool (.lit false))), (6, (.sl 2 2 (.lit 0) (.v fun _ => x4) 1048576)), (20, (.sl 0 2 (.lit 0) (.v fun _ => n) 1048576)), (21, (.int .i64 (.v fun _ => n) 0 1048576)), (22, (.int .i64 (.v fun _ => x4) 0 1048576))], [some ⟨48, 2, true, (.sym (.v fun _ => n) fun e => [(.int .i64 (.v fun _ => ((X (e.den)))) (-9223372036854775808) 9223372036854775807), (.int .i64 (.v fun _ => ((Y (e.den)))) (-9223372036854775808) 9223372036854775807)])⟩, some ⟨34, 4, true, (.lit [[(.int .i64 (.v fun _ => mA) (-9223372036854775808) 9223372036854775807), (.int .i64 (.v fun _ => mB) (-9223372036854775808) 9223372036854775807), (.int .i64 (.v fun _ => mC) (-9223372036854775808) 9223372036854775807), (.int .i64 (.v fun _ => mD) (-9223372036854775808) 9223372036854775807)]])⟩, some ⟨48, 2, true, (.sym (.v fun _ => x4) fun e => [(.int .i64 (.v fun _ => mpf X Y mA mB (e.den)) (-2000000) 2000000), (.int .i64 (.v fun _ => mpf X Y mC mD (e.den)) (-2000000) 2000000)])⟩], 1⟩) (fun x4 => 0 ≤ x4 ∧ x4 ≤ n) (fun x4 => (n - x4).toNat) fun x4 => (.ite (.need (.need (.call (c_i_times mA mB mC mD ((X (x4))) ((Y (x4)))) (.need (.next [0, 1, 2]))))) (.out (.call (c_i_listOk (mpf X Y mA mB) (mpf X Y mC mD) x4) (.ite .ret .ret))))))))))) (G := ((((-9223372036854775808) ≤ mA ∧ mA ≤ 9223372036854775807) ∧ (((-9223372036854775808) ≤ mB ∧ mB ≤ 9223372036854775807) ∧ (((-9223372036854775808) ≤ mC ∧ mC ≤ 9223372036854775807) ∧ ((-9223372036854775808) ≤ mD ∧ mD ≤ 9223372036854775807)))) ∧ (0 ≤ n ∧ n ≤ 1048576)) → (∀ e15 : E, ((0 ≤ e15.den ∧ e15.den < n) → (((-9223372036854775808) ≤ ((X (e15.den))) ∧ ((X (e15.den))) ≤ 9223372036854775807) ∧ ((-9223372036854775808) ≤ ((Y (e15.den))) ∧ ((Y (e15.den))) ≤ 9223372036854775807)))) → (((mA = mA) ∧ ((mB = mB) ∧ ((mC = mC) ∧ (mD = mD)))) ∧ ((((okM mA mB mC mD) = false) → ((((0 : Int) = (mpN X Y n mA mB mC mD)) ∧ ((mpB X Y n mA mB mC mD) = false)) ∧ (((n ≤ n) ∧ (∀ e1 : E, ((0 ≤ e1.den ∧ e1.den < n) → ((((X (e1.den))) = ((X (e1.den)))) ∧ (((Y (e1.den))) = ((Y (e1.den)))))))) ∧ ((mpN X Y n mA mB mC mD) = 0)))) ∧ (((okM mA mB mC mD) = true) → ((n = n) ∧ (((n ≤ n) ∧ (∀ e2 : E, ((0 ≤ e2.den ∧ e2.den < n) → ((((X (e2.den))) = ((X (e2.den)))) ∧ (((Y (e2.den))) = ((Y (e2.den)))))))) ∧ ((((listB X Y n) = false) → ((((0 : Int) = (mpN X Y n mA mB mC mD)) ∧ ((mpB X Y n mA mB mC mD) = false)) ∧ (((n ≤ n) ∧ (∀ e3 : E, ((0 ≤ e3.den ∧ e3.den < n) → ((((X (e3.den))) = ((X (e3.den)))) ∧ (((Y (e3.den))) = ((Y (e3.den)))))))) ∧ ((mpN X Y n mA mB mC mD) = 0)))) ∧ (((listB X Y n) = true) → ((0 ≤ n) ∧ ((∃ y5 : Int, ((0 ≤ y5 ∧ y5 ≤ n) ∧ (((((.slice none 0 0) : Value) = (.slice none 0 0)) ∧ (((0 : Int) = y5) ∧ ((n = n) ∧ ((n = n) ∧ ((0 : Int) = y5))))) ∧ (((n ≤ n) ∧ (∀ e6 : E, ((0 ≤ e6.den ∧ e6.den < n) → ((((X (e6.den))) = ((X (e6.den)))) ∧ (((Y (e6.den))) = ((Y (e6.den)))))))) ∧ (((mA = mA) ∧ ((mB = mB) ∧ ((mC = mC) ∧ (mD = mD)))) ∧ (y5 = 0)))))) ∧ (∀ x4 : Int, ((0 ≤ x4 ∧ x4 ≤ n) → (((x4 < n) → ((((0 ≤ x4) ∧ (x4 < n))) ∧ ((x4 < n) ∧ (((((mA = mA) ∧ (((-9223372036854775808) ≤ mA ∧ mA ≤ 9223372036854775807) → ((-1000) ≤ mA ∧ mA ≤ 1000))) ∧ (((mB = mB) ∧ (((-9223372036854775808) ≤ mB ∧ mB ≤ 9223372036854775807) → ((-1000) ≤ mB ∧ mB ≤ 1000))) ∧ (((mC = mC) ∧ (((-9223372036854775808) ≤ mC ∧ mC ≤ 9223372036854775807) → ((-1000) ≤ mC ∧ mC ≤ 1000))) ∧ ((mD = mD) ∧ (((-9223372036854775808) ≤ mD ∧ mD ≤ 9223372036854775807) → ((-1000) ≤ mD ∧ mD ≤ 1000)))))) ∧ (((((X (x4))) = ((X (x4)))) ∧ (((-9223372036854775808) ≤ ((X (x4))) ∧ ((X (x4))) ≤ 9223372036854775807) → ((-1000) ≤ ((X (x4))) ∧ ((X (x4))) ≤ 1000))) ∧ ((((Y (x4))) = ((Y (x4)))) ∧ (((-9223372036854775808) ≤ ((Y (x4))) ∧ ((Y (x4))) ≤ 9223372036854775807) → ((-1000) ≤ ((Y (x4))) ∧ ((Y (x4))) ≤ 1000))))) ∧ ((x4 = x4) ∧ (∃ y7 : Int, ((0 ≤ y7 ∧ y7 ≤ n) ∧ ((((((.slice none 0 0) : Value) = (.slice none 0 0)) ∧ ((((x4 + 1) = y7) ∧ (((x4 + 1) ≤ 1048577) → (y7 ≤ 1048576))) ∧ ((n = n) ∧ ((n = n) ∧ (((x4 + 1) = y7) ∧ ((1 ≤ (x4 + 1) ∧ (x4 + 1) ≤ 1048577) → (0 ≤ y7 ∧ y7 ≤ 1048576))))))) ∧ (((n ≤ n) ∧ (∀ e10 : E, ((0 ≤ e10.den ∧ e10.den < n) → ((((X (e10.den))) = ((X (e10.den)))) ∧ (((Y (e10.den))) = ((Y (e10.den)))))))) ∧ (((mA = mA) ∧ ((mB = mB) ∧ ((mC = mC) ∧ (mD = mD)))) ∧ (((0 : Int) ≤ x4 ∧ y7 = x4 + 1) ∧ (((x4 ≤ x4) ∧ (∀ e9 : E, ((0 ≤ e9.den ∧ e9.den < x4) → (((mpf X Y mA mB (e9.den)) = (mpf X Y mA mB (e9.den))) ∧ ((mpf X Y mC mD (e9.den)) = (mpf X Y mC mD (e9.den))))))) ∧ (∀ e8 : E, ((e8.den = x4) → (((mA * ((X (x4))) + mB * ((Y (x4)))) = (mpf X Y mA mB (e8.den))) ∧ ((mC * ((X (x4))) + mD * ((Y (x4)))) = (mpf X Y mC mD (e8.den))))))))))) ∧ ((n - y7).toNat < (n - x4).toNat))))))))) ∧ ((n ≤ x4) → ((x4 = x4) ∧ (((x4 ≤ x4) ∧ (∀ e11 : E, ((0 ≤ e11.den ∧ e11.den < x4) → (((mpf X Y mA mB (e11.den)) = (mpf X Y mA mB ((e11.den)))) ∧ ((mpf X Y mC mD (e11.den)) = (mpf X Y mC mD ((e11.den)))))))) ∧ ((((listB (mpf X Y mA mB) (mpf X Y mC mD) x4) = false) → ((((0 : Int) = (mpN X Y n mA mB mC mD)) ∧ ((mpB X Y n mA mB mC mD) = false)) ∧ (((n ≤ n) ∧ (∀ e12 : E, ((0 ≤ e12.den ∧ e12.den < n) → ((((X (e12.den))) = ((X (e12.den)))) ∧ (((Y (e12.den))) = ((Y (e12.den)))))))) ∧ ((mpN X Y n mA mB mC mD) = 0)))) ∧ (((listB (mpf X Y mA mB) (mpf X Y mC mD) x4) = true) → (((x4 = (mpN X Y n mA mB mC mD)) ∧ ((mpB X Y n mA mB mC mD) = true)) ∧ (((n ≤ n) ∧ (∀ e14 : E, ((0 ≤ e14.den ∧ e14.den < n) → ((((X (e14.den))) = ((X (e14.den)))) ∧ (((Y (e14.den))) = ((Y (e14.den)))))))) ∧ (((mpN X Y n mA mB mC mD) ≤ x4) ∧ (∀ e13 : E, ((0 ≤ e13.den ∧ e13.den < (mpN X Y n mA mB mC mD)) → (((mpf X Y mA mB ((e13.den))) = (mpf X Y mA mB e13.den)) ∧ ((mpf X Y mC mD ((e13.den))) = (mpf X Y mC mD e13.den)))))))))))))))))))))))))) (by kernel_rfl) ?_
  intro h1 h2
  refine ⟨⟨rfl, ⟨rfl, ⟨rfl, rfl⟩⟩⟩, ?_, ?_⟩
  · intro c16
    refine ⟨?_, ⟨Int.le_refl _, fun _ => fun _ => ⟨rfl, rfl⟩⟩, ?_⟩
    · refine ⟨?_, ?_⟩
        -- 1: (0 : Int) = (mpN X Y n mA mB mC mD)
      · first | rfl | omega | (have hb := listB_bd (show listB X Y n = true by assumption) (i := j) (by omega) (by omega); omega) | (have hm := okM_iff.1 (by assumption : okM mA mB mC mD = true); omega) | (simp [mpf, *]; done) | (have e : j = n := (by omega); simp_all [mpN, mpB]; done) | (have e : j = n := (by omega); subst e; simp_all [mpN, mpB]; omega) | (simp [mpN, mpB, *]; done) | (simp_all [mpN, mpB]; done) | (simp_all [mpN, mpB]; omega)
        -- 2: (mpB X Y n mA mB mC mD) = false
      · first | rfl | omega | (have hb := listB_bd (show listB X Y n = true by assumption) (i := j) (by omega) (by omega); omega) | (have hm := okM_iff.1 (by assumption : okM mA mB mC mD = true); omega) | (simp [mpf, *]; done) | (have e : j = n := (by omega); simp_all [mpN, mpB]; done) | (have e : j = n := (by omega); subst e; simp_all [mpN, mpB]; omega) | (simp [mpN, mpB, *]; done) | (simp_all [mpN, mpB]; done) | (simp_all [mpN, mpB]; omega)
      -- 3: (mpN X Y n mA mB mC mD) = 0
    · first | rfl | omega | (have hb := listB_bd (show listB X Y n = true by assumption) (i := j) (by omega) (by omega); omega) | (have hm := okM_iff.1 (by assumption : okM mA mB mC mD = true); omega) | (simp [mpf, *]; done) | (have e : j = n := (by omega); simp_all [mpN, mpB]; done) | (have e : j = n := (by omega); subst e; simp_all [mpN, mpB]; omega) | (simp [mpN, mpB, *]; done) | (simp_all [mpN, mpB]; done) | (simp_all [mpN, mpB]; omega)
  · intro c17
    refine ⟨rfl, ⟨Int.le_refl _, fun _ => fun _ => ⟨rfl, rfl⟩⟩, ?_, ?_⟩
    · intro c18
      refine ⟨?_, ⟨Int.le_refl _, fun _ => fun _ => ⟨rfl, rfl⟩⟩, ?_⟩
      · refine ⟨?_, ?_⟩
          -- 4: (0 : Int) = (mpN X Y n mA mB mC mD)
        · first | rfl | omega | (have hb := listB_bd (show listB X Y n = true by assumption) (i := j) (by omega) (by omega); omega) | (have hm := okM_iff.1 (by assumption : okM mA mB mC mD = true); omega) | (simp [mpf, *]; done) | (have e : j = n := (by omega); simp_all [mpN, mpB]; done) | (have e : j = n := (by omega); subst e; simp_all [mpN, mpB]; omega) | (simp [mpN, mpB, *]; done) | (simp_all [mpN, mpB]; done) | (simp_all [mpN, mpB]; omega)
          -- 5: (mpB X Y n mA mB mC mD) = false
        · first | rfl | omega | (have hb := listB_bd (show listB X Y n = true by assumption) (i := j) (by omega) (by omega); omega) | (have hm := okM_iff.1 (by assumption : okM mA mB mC mD = true); omega) | (simp [mpf, *]; done) | (have e : j = n := (by omega); simp_all [mpN, mpB]; done) | (have e : j = n := (by omega); subst e; simp_all [mpN, mpB]; omega) | (simp [mpN, mpB, *]; done) | (simp_all [mpN, mpB]; done) | (simp_all [mpN, mpB]; omega)
        -- 6: (mpN X Y n mA mB mC mD) = 0
      · first | rfl | omega | (have hb := listB_bd (show listB X Y n = true by assumption) (i := j) (by omega) (by omega); omega) | (have hm := okM_iff.1 (by assumption : okM mA mB mC mD = true); omega) | (simp [mpf, *]; done) | (have e : j = n := (by omega); simp_all [mpN, mpB]; done) | (have e : j = n := (by omega); subst e; simp_all [mpN, mpB]; omega) | (simp [mpN, mpB, *]; done) | (simp_all [mpN, mpB]; done) | (simp_all [mpN, mpB]; omega)
    · intro c19
      refine ⟨?_, ?_, ?_⟩
        -- 7: 0 ≤ n
      · first | rfl | omega | (have hb := listB_bd (show listB X Y n = true by assumption) (i := j) (by omega) (by omega); omega) | (have hm := okM_iff.1 (by assumption : okM mA mB mC mD = true); omega) | (simp [mpf, *]; done) | (have e : j = n := (by omega); simp_all [mpN, mpB]; done) | (have e : j = n := (by omega); subst e; simp_all [mpN, mpB]; omega) | (simp [mpN, mpB, *]; done) | (simp_all [mpN, mpB]; done) | (simp_all [mpN, mpB]; omega)
      · refine ⟨0, ?_⟩
        try dsimp only
        refine ⟨?_, ?_, ⟨Int.le_refl _, fun _ => fun _ => ⟨rfl, rfl⟩⟩, ⟨rfl, ⟨rfl, ⟨rfl, rfl⟩⟩⟩, ?_⟩
          -- 8: 0 ≤ y5 ∧ y5 ≤ n
        · first | rfl | omega | (have hb := listB_bd (show listB X Y n = true by assumption) (i := j) (by omega) (by omega); omega) | (have hm := okM_iff.1 (by assumption : okM mA mB mC mD = true); omega) | (simp [mpf, *]; done) | (have e : j = n := (by omega); simp_all [mpN, mpB]; done) | (have e : j = n := (by omega); subst e; simp_all [mpN, mpB]; omega) | (simp [mpN, mpB, *]; done) | (simp_all [mpN, mpB]; done) | (simp_all [mpN, mpB]; omega)
        · refine ⟨rfl, ?_, rfl, rfl, ?_⟩
            -- 9: (0 : Int) = y5
          · first | rfl | omega | (have hb := listB_bd (show listB X Y n = true by assumption) (i := j) (by omega) (by omega); omega) | (have hm := okM_iff.1 (by assumption : okM mA mB mC mD = true); omega) | (simp [mpf, *]; done) | (have e : j = n := (by omega); simp_all [mpN, mpB]; done) | (have e : j = n := (by omega); subst e; simp_all [mpN, mpB]; omega) | (simp [mpN, mpB, *]; done) | (simp_all [mpN, mpB]; done) | (simp_all [mpN, mpB]; omega)
            -- 10: (0 : Int) = y5
          · first | rfl | omega | (have hb := listB_bd (show listB X Y n = true by assumption) (i := j) (by omega) (by omega); omega) | (have hm := okM_iff.1 (by assumption : okM mA mB mC mD = true); omega) | (simp [mpf, *]; done) | (have e : j = n := (by omega); simp_all [mpN, mpB]; done) | (have e : j = n := (by omega); subst e; simp_all [mpN, mpB]; omega) | (simp [mpN, mpB, *]; done) | (simp_all [mpN, mpB]; done) | (simp_all [mpN, mpB]; omega)
          -- 11: y5 = 0
        · first | rfl | omega | (have hb := listB_bd (show listB X Y n = true by assumption) (i := j) (by omega) (by omega); omega) | (have hm := okM_iff.1 (by assumption : okM mA mB mC mD = true); omega) | (simp [mpf, *]; done) | (have e : j = n := (by omega); simp_all [mpN, mpB]; done) | (have e : j = n := (by omega); subst e; simp_all [mpN, mpB]; omega) | (simp [mpN, mpB, *]; done) | (simp_all [mpN, mpB]; done) | (simp_all [mpN, mpB]; omega)
      · intro j
        intro I1
        refine ⟨?_, ?_⟩
        · intro c20
          refine ⟨?_, ?_, ?_, ?_, ?_⟩
            -- 12: ((0 ≤ x4) ∧ (x4 < n))
          · first | rfl | omega | (have hb := listB_bd (show listB X Y n = true by assumption) (i := j) (by omega) (by omega); omega) | (have hm := okM_iff.1 (by assumption : okM mA mB mC mD = true); omega) | (simp [mpf, *]; done) | (have e : j = n := (by omega); simp_all [mpN, mpB]; done) | (have e : j = n := (by omega); subst e; simp_all [mpN, mpB]; omega) | (simp [mpN, mpB, *]; done) | (simp_all [mpN, mpB]; done) | (simp_all [mpN, mpB]; omega)
            -- 13: x4 < n
          · first | rfl | omega | (have hb := listB_bd (show listB X Y n = true by assumption) (i := j) (by omega) (by omega); omega) | (have hm := okM_iff.1 (by assumption : okM mA mB mC mD = true); omega) | (simp [mpf, *]; done) | (have e : j = n := (by omega); simp_all [mpN, mpB]; done) | (have e : j = n := (by omega); subst e; simp_all [mpN, mpB]; omega) | (simp [mpN, mpB, *]; done) | (simp_all [mpN, mpB]; done) | (simp_all [mpN, mpB]; omega)
          · refine ⟨?_, ?_, rfl, ?_⟩
            · refine ⟨?_, ?_, ?_, rfl, ?_⟩
              · refine ⟨rfl, ?_⟩
                intro c21
                -- 14: (-1000) ≤ mA ∧ mA ≤ 1000
                first | rfl | omega | (have hb := listB_bd (show listB X Y n = true by assumption) (i := j) (by omega) (by omega); omega) | (have hm := okM_iff.1 (by assumption : okM mA mB mC mD = true); omega) | (simp [mpf, *]; done) | (have e : j = n := (by omega); simp_all [mpN, mpB]; done) | (have e : j = n := (by omega); subst e; simp_all [mpN, mpB]; omega) | (simp [mpN, mpB, *]; done) | (simp_all [mpN, mpB]; done) | (simp_all [mpN, mpB]; omega)
              · refine ⟨rfl, ?_⟩
                intro c22
                -- 15: (-1000) ≤ mB ∧ mB ≤ 1000
                first | rfl | omega | (have hb := listB_bd (show listB X Y n = true by assumption) (i := j) (by omega) (by omega); omega) | (have hm := okM_iff.1 (by assumption : okM mA mB mC mD = true); omega) | (simp [mpf, *]; done) | (have e : j = n := (by omega); simp_all [mpN, mpB]; done) | (have e : j = n := (by omega); subst e; simp_all [mpN, mpB]; omega) | (simp [mpN, mpB, *]; done) | (simp_all [mpN, mpB]; done) | (simp_all [mpN, mpB]; omega)
              · refine ⟨rfl, ?_⟩
                intro c23
                -- 16: (-1000) ≤ mC ∧ mC ≤ 1000
                first | rfl | omega | (have hb := listB_bd (show listB X Y n = true by assumption) (i := j) (by omega) (by omega); omega) | (have hm := okM_iff.1 (by assumption : okM mA mB mC mD = true); omega) | (simp [mpf, *]; done) | (have e : j = n := (by omega); simp_all [mpN, mpB]; done) | (have e : j = n := (by omega); subst e; simp_all [mpN, mpB]; omega) | (simp [mpN, mpB, *]; done) | (simp_all [mpN, mpB]; done) | (simp_all [mpN, mpB]; omega)
              · intro c24
                -- 17: (-1000) ≤ mD ∧ mD ≤ 1000
                first | rfl | omega | (have hb := listB_bd (show listB X Y n = true by assumption) (i := j) (by omega) (by omega); omega) | (have hm := okM_iff.1 (by assumption : okM mA mB mC mD = true); omega) | (simp [mpf, *]; done) | (have e : j = n := (by omega); simp_all [mpN, mpB]; done) | (have e : j = n := (by omega); subst e; simp_all [mpN, mpB]; omega) | (simp [mpN, mpB, *]; done) | (simp_all [mpN, mpB]; done) | (simp_all [mpN, mpB]; omega)
            · refine ⟨rfl, ?_⟩
              intro c25
              -- 18: (-1000) ≤ ((X (x4))) ∧ ((X (x4))) ≤ 1000
              first | rfl | omega | (have hb := listB_bd (show listB X Y n = true by assumption) (i := j) (by omega) (by omega); omega) | (have hm := okM_iff.1 (by assumption : okM mA mB mC mD = true); omega) | (simp [mpf, *]; done) | (have e : j = n := (by omega); simp_all [mpN, mpB]; done) | (have e : j = n := (by omega); subst e; simp_all [mpN, mpB]; omega) | (simp [mpN, mpB, *]; done) | (simp_all [mpN, mpB]; done) | (simp_all [mpN, mpB]; omega)
            · intro c26
              -- 19: (-1000) ≤ ((Y (x4))) ∧ ((Y (x4))) ≤ 1000
              first | rfl | omega | (have hb := listB_bd (show listB X Y n = true by assumption) (i := j) (by omega) (by omega); omega) | (have hm := okM_iff.1 (by assumption : okM mA mB mC mD = true); omega) | (simp [mpf, *]; done) | (have e : j = n := (by omega); simp_all [mpN, mpB]; done) | (have e : j = n := (by omega); subst e; simp_all [mpN, mpB]; omega) | (simp [mpN, mpB, *]; done) | (simp_all [mpN, mpB]; done) | (simp_all [mpN, mpB]; omega)
            -- 20: x4 = x4
          · first | rfl | omega | (have hb := listB_bd (show listB X Y n = true by assumption) (i := j) (by omega) (by omega); omega) | (have hm := okM_iff.1 (by assumption : okM mA mB mC mD = true); omega) | (simp [mpf, *]; done) | (have e : j = n := (by omega); simp_all [mpN, mpB]; done) | (have e : j = n := (by omega); subst e; simp_all [mpN, mpB]; omega) | (simp [mpN, mpB, *]; done) | (simp_all [mpN, mpB]; done) | (simp_all [mpN, mpB]; omega)
          · refine ⟨j + 1, ?_⟩
            try dsimp only
            refine ⟨?_, ?_, ?_⟩
              -- 21: 0 ≤ y7 ∧ y7 ≤ n
            · first | rfl | omega | (have hb := listB_bd (show listB X Y n = true by assumption) (i := j) (by omega) (by omega); omega) | (have hm := okM_iff.1 (by assumption : okM mA mB mC mD = true); omega) | (simp [mpf, *]; done) | (have e : j = n := (by omega); simp_all [mpN, mpB]; done) | (have e : j = n := (by omega); subst e; simp_all [mpN, mpB]; omega) | (simp [mpN, mpB, *]; done) | (simp_all [mpN, mpB]; done) | (simp_all [mpN, mpB]; omega)
            · refine ⟨?_, ⟨Int.le_refl _, fun _ => fun _ => ⟨rfl, rfl⟩⟩, ⟨rfl, ⟨rfl, ⟨rfl, rfl⟩⟩⟩, ?_, ⟨Int.le_refl _, fun _ => fun _ => ⟨rfl, rfl⟩⟩, ?_⟩
              · refine ⟨rfl, ?_, rfl, rfl, ?_, ?_⟩
                · refine ⟨?_, ?_⟩
                    -- 22: (x4 + 1) = y7
                  · first | rfl | omega | (have hb := listB_bd (show listB X Y n = true by assumption) (i := j) (by omega) (by omega); omega) | (have hm := okM_iff.1 (by assumption : okM mA mB mC mD = true); omega) | (simp [mpf, *]; done) | (have e : j = n := (by omega); simp_all [mpN, mpB]; done) | (have e : j = n := (by omega); subst e; simp_all [mpN, mpB]; omega) | (simp [mpN, mpB, *]; done) | (simp_all [mpN, mpB]; done) | (simp_all [mpN, mpB]; omega)
                  · intro c27
                    -- 23: y7 ≤ 1048576
                    first | rfl | omega | (have hb := listB_bd (show listB X Y n = true by assumption) (i := j) (by omega) (by omega); omega) | (have hm := okM_iff.1 (by assumption : okM mA mB mC mD = true); omega) | (simp [mpf, *]; done) | (have e : j = n := (by omega); simp_all [mpN, mpB]; done) | (have e : j = n := (by omega); subst e; simp_all [mpN, mpB]; omega) | (simp [mpN, mpB, *]; done) | (simp_all [mpN, mpB]; done) | (simp_all [mpN, mpB]; omega)
                  -- 24: (x4 + 1) = y7
                · first | rfl | omega | (have hb := listB_bd (show listB X Y n = true by assumption) (i := j) (by omega) (by omega); omega) | (have hm := okM_iff.1 (by assumption : okM mA mB mC mD = true); omega) | (simp [mpf, *]; done) | (have e : j = n := (by omega); simp_all [mpN, mpB]; done) | (have e : j = n := (by omega); subst e; simp_all [mpN, mpB]; omega) | (simp [mpN, mpB, *]; done) | (simp_all [mpN, mpB]; done) | (simp_all [mpN, mpB]; omega)
                · intro c28
                  -- 25: 0 ≤ y7 ∧ y7 ≤ 1048576
                  first | rfl | omega | (have hb := listB_bd (show listB X Y n = true by assumption) (i := j) (by omega) (by omega); omega) | (have hm := okM_iff.1 (by assumption : okM mA mB mC mD = true); omega) | (simp [mpf, *]; done) | (have e : j = n := (by omega); simp_all [mpN, mpB]; done) | (have e : j = n := (by omega); subst e; simp_all [mpN, mpB]; omega) | (simp [mpN, mpB, *]; done) | (simp_all [mpN, mpB]; done) | (simp_all [mpN, mpB]; omega)
                -- 26: (0 : Int) ≤ x4 ∧ y7 = x4 + 1
              · first | rfl | omega | (have hb := listB_bd (show listB X Y n = true by assumption) (i := j) (by omega) (by omega); omega) | (have hm := okM_iff.1 (by assumption : okM mA mB mC mD = true); omega) | (simp [mpf, *]; done) | (have e : j = n := (by omega); simp_all [mpN, mpB]; done) | (have e : j = n := (by omega); subst e; simp_all [mpN, mpB]; omega) | (simp [mpN, mpB, *]; done) | (simp_all [mpN, mpB]; done) | (simp_all [mpN, mpB]; omega)
              · intro e8
                intro c29
                refine ⟨?_, ?_⟩
                  -- 27: (mA * ((X (x4))) + mB * ((Y (x4)))) = (mpf X Y mA mB (e8.den))
                · first | rfl | omega | (have hb := listB_bd (show listB X Y n = true by assumption) (i := j) (by omega) (by omega); omega) | (have hm := okM_iff.1 (by assumption : okM mA mB mC mD = true); omega) | (simp [mpf, *]; done) | (have e : j = n := (by omega); simp_all [mpN, mpB]; done) | (have e : j = n := (by omega); subst e; simp_all [mpN, mpB]; omega) | (simp [mpN, mpB, *]; done) | (simp_all [mpN, mpB]; done) | (simp_all [mpN, mpB]; omega)
                  -- 28: (mC * ((X (x4))) + mD * ((Y (x4)))) = (mpf X Y mC mD (e8.den))
                · first | rfl | omega | (have hb := listB_bd (show listB X Y n = true by assumption) (i := j) (by omega) (by omega); omega) | (have hm := okM_iff.1 (by assumption : okM mA mB mC mD = true); omega) | (simp [mpf, *]; done) | (have e : j = n := (by omega); simp_all [mpN, mpB]; done) | (have e : j = n := (by omega); subst e; simp_all [mpN, mpB]; omega) | (simp [mpN, mpB, *]; done) | (simp_all [mpN, mpB]; done) | (simp_all [mpN, mpB]; omega)
              -- 29: (n - y7).toNat < (n - x4).toNat
            · first | rfl | omega | (have hb := listB_bd (show listB X Y n = true by assumption) (i := j) (by omega) (by omega); omega) | (have hm := okM_iff.1 (by assumption : okM mA mB mC mD = true); omega) | (simp [mpf, *]; done) | (have e : j = n := (by omega); simp_all [mpN, mpB]; done) | (have e : j = n := (by omega); subst e; simp_all [mpN, mpB]; omega) | (simp [mpN, mpB, *]; done) | (simp_all [mpN, mpB]; done) | (simp_all [mpN, mpB]; omega)
        · intro c30
          refine ⟨rfl, ⟨Int.le_refl _, fun _ => fun _ => ⟨rfl, rfl⟩⟩, ?_, ?_⟩
          · intro c31
            refine ⟨?_, ⟨Int.le_refl _, fun _ => fun _ => ⟨rfl, rfl⟩⟩, ?_⟩
            · refine ⟨?_, ?_⟩
                -- 30: (0 : Int) = (mpN X Y n mA mB mC mD)
              · first | rfl | omega | (have hb := listB_bd (show listB X Y n = true by assumption) (i := j) (by omega) (by omega); omega) | (have hm := okM_iff.1 (by assumption : okM mA mB mC mD = true); omega) | (simp [mpf, *]; done) | (have e : j = n := (by omega); simp_all [mpN, mpB]; done) | (have e : j = n := (by omega); subst e; simp_all [mpN, mpB]; omega) | (simp [mpN, mpB, *]; done) | (simp_all [mpN, mpB]; done) | (simp_all [mpN, mpB]; omega)
                -- 31: (mpB X Y n mA mB mC mD) = false
              · first | rfl | omega | (have hb := listB_bd (show listB X Y n = true by assumption) (i := j) (by omega) (by omega); omega) | (have hm := okM_iff.1 (by assumption : okM mA mB mC mD = true); omega) | (simp [mpf, *]; done) | (have e : j = n := (by omega); simp_all [mpN, mpB]; done) | (have e : j = n := (by omega); subst e; simp_all [mpN, mpB]; omega) | (simp [mpN, mpB, *]; done) | (simp_all [mpN, mpB]; done) | (simp_all [mpN, mpB]; omega)
              -- 32: (mpN X Y n mA mB mC mD) = 0
            · first | rfl | omega | (have hb := listB_bd (show listB X Y n = true by assumption) (i := j) (by omega) (by omega); omega) | (have hm := okM_iff.1 (by assumption : okM mA mB mC mD = true); omega) | (simp [mpf, *]; done) | (have e : j = n := (by omega); simp_all [mpN, mpB]; done) | (have e : j = n := (by omega); subst e; simp_all [mpN, mpB]; omega) | (simp [mpN, mpB, *]; done) | (simp_all [mpN, mpB]; done) | (simp_all [mpN, mpB]; omega)
          · intro c32
            refine ⟨?_, ⟨Int.le_refl _, fun _ => fun _ => ⟨rfl, rfl⟩⟩, ?_, fun _ => fun _ => ⟨rfl, rfl⟩⟩
            · refine ⟨?_, ?_⟩
                -- 33: x4 = (mpN X Y n mA mB mC mD)
              · first | rfl | omega | (have hb := listB_bd (show listB X Y n = true by assumption) (i := j) (by omega) (by omega); omega) | (have hm := okM_iff.1 (by assumption : okM mA mB mC mD = true); omega) | (simp [mpf, *]; done) | (have e : j = n := (by omega); simp_all [mpN, mpB]; done) | (have e : j = n := (by omega); subst e; simp_all [mpN, mpB]; omega) | (simp [mpN, mpB, *]; done) | (simp_all [mpN, mpB]; done) | (simp_all [mpN, mpB]; omega)
                -- 34: (mpB X Y n mA mB mC mD) = true
              · first | rfl | omega | (have hb := listB_bd (show listB X Y n = true by assumption) (i := j) (by omega) (by omega); omega) | (have hm := okM_iff.1 (by assumption : okM mA mB mC mD = true); omega) | (simp [mpf, *]; done) | (have e : j = n := (by omega); simp_all [mpN, mpB]; done) | (have e : j = n := (by omega); subst e; simp_all [mpN, mpB]; omega) | (simp [mpN, mpB, *]; done) | (simp_all [mpN, mpB]; done) | (simp_all [mpN, mpB]; omega)
              -- 35: (mpN X Y n mA mB mC mD) ≤ x4
            · first | rfl | omega | (have hb := listB_bd (show listB X Y n = true by assumption) (i := j) (by omega) (by omega); omega) | (have hm := okM_iff.1 (by assumption : okM mA mB mC mD = true); omega) | (simp [mpf, *]; done) | (have e : j = n := (by omega); simp_all [mpN, mpB]; done) | (have e : j = n := (by omega); subst e; simp_all [mpN, mpB]; omega) | (simp [mpN, mpB, *]; done) | (simp_all [mpN, mpB]; done) | (simp_all [mpN, mpB]; omega)
def c_i_MapPoints (mA : Int) (mB : Int) (mC : Int) (mD : Int) (X : Int → Int) (Y : Int → Int) (n : Int) : Cn Try.prog := ⟨_, _, _, _, _, i_MapPoints mA mB mC mD X Y n⟩
theorem s_MapPoints (mA : Int) (mB : Int) (mC : Int) (mD : Int) (X : Int → Int) (Y : Int → Int) (n : Int) : RunsTo Try.prog 15 [(.agg [(.int .i64 (.v fun _ => mA) (-9223372036854775808) 9223372036854775807), (.int .i64 (.v fun _ => mB) (-9223372036854775808) 9223372036854775807), (.int .i64 (.v fun _ => mC) (-9223372036854775808) 9223372036854775807), (.int .i64 (.v fun _ => mD) (-9223372036854775808) 9223372036854775807)]), (.sl 0 2 (.lit 0) (.v fun _ => n) 1048576)] [some ⟨48, 2, true, (.sym (.v fun _ => n) fun e => [(.int .i64 (.v fun _ => (X (e.den))) (-9223372036854775808) 9223372036854775807), (.int .i64 (.v fun _ => (Y (e.den))) (-9223372036854775808) 9223372036854775807)])⟩] (.tup [(.sl 1 2 (.lit 0) (.v fun _ => mpN X Y n mA mB mC mD) 1048576), (.bool (.v fun _ => mpB X Y n mA mB mC mD))]) [some ⟨48, 2, true, (.sym (.v fun _ => n) fun e => [(.int .i64 (.v fun _ => (X (e.den))) (-9223372036854775808) 9223372036854775807), (.int .i64 (.v fun _ => (Y (e.den))) (-9223372036854775808) 9223372036854775807)])⟩, some ⟨48, 2, true, (.sym (.v fun _ => mpN X Y n mA mB mC mD) fun e => [(.int .i64 (.v fun _ => mpf X Y mA mB e.den) (-9223372036854775808) 9223372036854775807), (.int .i64 (.v fun _ => mpf X Y mC mD e.den) (-9223372036854775808) 9223372036854775807)])⟩] := by
  refine RunsTo.go env Try.func15 rfl Try.call15 rfl rfl (fun _ _ => (.call (c_s_validMatrix mA mB mC mD) (.ite .ret (.call (c_s_validPoints X Y n) (.ite .ret (.loop [] [0, 1, 2] (Int) (fun x4 => ⟨spl 36 0 [(1, (.sl 0 2 (.lit 0) (.v fun _ => n) 1048576)), (2, (.ptr 1 4 (.lit 0) 0)), (4, (.raw (.slice none 0 0))), (5, (.bool (.lit false))), (6, (.sl 2 2 (.lit 0) (.v fun _ => x4) 1048576)), (7, (.int .i64 (.v fun _ => x4) 0 1048576))], [some ⟨48, 2, true, (.sym (.v fun _ => n) fun e => [(.int .i64 (.v fun _ => ((X (e.den)))) (-9223372036854775808) 9223372036854775807), (.int .i64 (.v fun _ => ((Y (e.den)))) (-9223372036854775808) 9223372036854775807)])⟩, some ⟨34, 4, true, (.lit [[(.int .i64 (.v fun _ => mA) (-9223372036854775808) 9223372036854775807), (.int .i64 (.v fun _ => mB) (-9223372036854775808) 9223372036854775807), (.int .i64 (.v fun _ => mC) (-9223372036854775808) 9223372036854775807), (.int .i64 (.v fun _ => mD) (-9223372036854775808) 9223372036854775807)]])⟩, some ⟨48, 2, true, (.sym (.v fun _ => x4) fun e => [(.int .i64 (.v fun _ => mpf X Y mA mB (e.den)) (-2000000) 2000000), (.int .i64 (.v fun _ => mpf X Y mC mD (e.den)) (-2000000) 2000000)])⟩], 1⟩) (fun x4 => 0 ≤ x4 ∧ x4 ≤ n) (fun x4 => (n - x4).toNat) fun x4 => (.ite (.need (.need (.call (c_s_apply mA mB mC mD ((X (x4))) ((Y (x4)))) (.need (.next [0, 1, 2]))))) (.out (.call (c_s_validPoints (mpf X Y mA mB) (mpf X Y mC mD) x4) (.ite .ret .ret)))))))))) (G := ((((-9223372036854775808) ≤ mA ∧ mA ≤ 9223372036854775807) ∧ (((-9223372036854775808) ≤ mB ∧ mB ≤ 9223372036854775807) ∧ (((-9223372036854775808) ≤ mC ∧ mC ≤ 9223372036854775807) ∧ ((-9223372036854775808) ≤ mD ∧ mD ≤ 9223372036854775807)))) ∧ (0 ≤ n ∧ n ≤ 1048576)) → (∀ e15 : E, ((0 ≤ e15.den ∧ e15.den < n) → (((-9223372036854775808) ≤ ((X (e15.den))) ∧ ((X (e15.den))) ≤ 9223372036854775807) ∧ ((-9223372036854775808) ≤ ((Y (e15.den))) ∧ ((Y (e15.den))) ≤ 9223372036854775807)))) → (((mA = mA) ∧ ((mB = mB) ∧ ((mC = mC) ∧ (mD = mD)))) ∧ ((((okM mA mB mC mD) = false) → ((((0 : Int) = (mpN X Y n mA mB mC mD)) ∧ ((mpB X Y n mA mB mC mD) = false)) ∧ (((n ≤ n) ∧ (∀ e1 : E, ((0 ≤ e1.den ∧ e1.den < n) → ((((X (e1.den))) = ((X (e1.den)))) ∧ (((Y (e1.den))) = ((Y (e1.den)))))))) ∧ ((mpN X Y n mA mB mC mD) = 0)))) ∧ (((okM mA mB mC mD) = true) → ((n = n) ∧ (((n ≤ n) ∧ (∀ e2 : E, ((0 ≤ e2.den ∧ e2.den < n) → ((((X (e2.den))) = ((X (e2.den)))) ∧ (((Y (e2.den))) = ((Y (e2.den)))))))) ∧ ((((listB X Y n) = false) → ((((0 : Int) = (mpN X Y n mA mB mC mD)) ∧ ((mpB X Y n mA mB mC mD) = false)) ∧ (((n ≤ n) ∧ (∀ e3 : E, ((0 ≤ e3.den ∧ e3.den < n) → ((((X (e3.den))) = ((X (e3.den)))) ∧ (((Y (e3.den))) = ((Y (e3.den)))))))) ∧ ((mpN X Y n mA mB mC mD) = 0)))) ∧ (((listB X Y n) = true) → ((∃ y5 : Int, ((0 ≤ y5 ∧ y5 ≤ n) ∧ (((n = n) ∧ ((((.slice none 0 0) : Value) = (.slice none 0 0)) ∧ (((0 : Int) = y5) ∧ ((0 : Int) = y5)))) ∧ (((n ≤ n) ∧ (∀ e6 : E, ((0 ≤ e6.den ∧ e6.den < n) → ((((X (e6.den))) = ((X (e6.den)))) ∧ (((Y (e6.den))) = ((Y (e6.den)))))))) ∧ (((mA = mA) ∧ ((mB = mB) ∧ ((mC = mC) ∧ (mD = mD)))) ∧ (y5 = 0)))))) ∧ (∀ x4 : Int, ((0 ≤ x4 ∧ x4 ≤ n) → (((x4 < n) → ((((0 ≤ x4) ∧ (x4 < n))) ∧ ((x4 < n) ∧ (((((mA = mA) ∧ (((-9223372036854775808) ≤ mA ∧ mA ≤ 9223372036854775807) → ((-1000) ≤ mA ∧ mA ≤ 1000))) ∧ (((mB = mB) ∧ (((-9223372036854775808) ≤ mB ∧ mB ≤ 9223372036854775807) → ((-1000) ≤ mB ∧ mB ≤ 1000))) ∧ (((mC = mC) ∧ (((-9223372036854775808) ≤ mC ∧ mC ≤ 9223372036854775807) → ((-1000) ≤ mC ∧ mC ≤ 1000))) ∧ ((mD = mD) ∧ (((-9223372036854775808) ≤ mD ∧ mD ≤ 9223372036854775807) → ((-1000) ≤ mD ∧ mD ≤ 1000)))))) ∧ (((((X (x4))) = ((X (x4)))) ∧ (((-9223372036854775808) ≤ ((X (x4))) ∧ ((X (x4))) ≤ 9223372036854775807) → ((-1000) ≤ ((X (x4))) ∧ ((X (x4))) ≤ 1000))) ∧ ((((Y (x4))) = ((Y (x4)))) ∧ (((-9223372036854775808) ≤ ((Y (x4))) ∧ ((Y (x4))) ≤ 9223372036854775807) → ((-1000) ≤ ((Y (x4))) ∧ ((Y (x4))) ≤ 1000))))) ∧ ((x4 = x4) ∧ (∃ y7 : Int, ((0 ≤ y7 ∧ y7 ≤ n) ∧ ((((n = n) ∧ ((((.slice none 0 0) : Value) = (.slice none 0 0)) ∧ ((((x4 + 1) = y7) ∧ (((x4 + 1) ≤ 1048577) → (y7 ≤ 1048576))) ∧ (((x4 + 1) = y7) ∧ ((1 ≤ (x4 + 1) ∧ (x4 + 1) ≤ 1048577) → (0 ≤ y7 ∧ y7 ≤ 1048576)))))) ∧ (((n ≤ n) ∧ (∀ e10 : E, ((0 ≤ e10.den ∧ e10.den < n) → ((((X (e10.den))) = ((X (e10.den)))) ∧ (((Y (e10.den))) = ((Y (e10.den)))))))) ∧ (((mA = mA) ∧ ((mB = mB) ∧ ((mC = mC) ∧ (mD = mD)))) ∧ (((0 : Int) ≤ x4 ∧ y7 = x4 + 1) ∧ (((x4 ≤ x4) ∧ (∀ e9 : E, ((0 ≤ e9.den ∧ e9.den < x4) → (((mpf X Y mA mB (e9.den)) = (mpf X Y mA mB (e9.den))) ∧ ((mpf X Y mC mD (e9.den)) = (mpf X Y mC mD (e9.den))))))) ∧ (∀ e8 : E, ((e8.den = x4) → (((mA * ((X (x4))) + mB * ((Y (x4)))) = (mpf X Y mA mB (e8.den))) ∧ ((mC * ((X (x4))) + mD * ((Y (x4)))) = (mpf X Y mC mD (e8.den))))))))))) ∧ ((n - y7).toNat < (n - x4).toNat))))))))) ∧ ((n ≤ x4) → ((x4 = x4) ∧ (((x4 ≤ x4) ∧ (∀ e11 : E, ((0 ≤ e11.den ∧ e11.den < x4) → (((mpf X Y mA mB (e11.den)) = (mpf X Y mA mB ((e11.den)))) ∧ ((mpf X Y mC mD (e11.den)) = (mpf X Y mC mD ((e11.den)))))))) ∧ ((((listB (mpf X Y mA mB) (mpf X Y mC mD) x4) = false) → ((((0 : Int) = (mpN X Y n mA mB mC mD)) ∧ ((mpB X Y n mA mB mC mD) = false)) ∧ (((n ≤ n) ∧ (∀ e12 : E, ((0 ≤ e12.den ∧ e12.den < n) → ((((X (e12.den))) = ((X (e12.den)))) ∧ (((Y (e12.den))) = ((Y (e12.den)))))))) ∧ ((mpN X Y n mA mB mC mD) = 0)))) ∧ (((listB (mpf X Y mA mB) (mpf X Y mC mD) x4) = true) → (((x4 = (mpN X Y n mA mB mC mD)) ∧ ((mpB X Y n mA mB mC mD) = true)) ∧ (((n ≤ n) ∧ (∀ e14 : E, ((0 ≤ e14.den ∧ e14.den < n) → ((((X (e14.den))) = ((X (e14.den)))) ∧ (((Y (e14.den))) = ((Y (e14.den)))))))) ∧ (((mpN X Y n mA mB mC mD) ≤ x4) ∧ (∀ e13 : E, ((0 ≤ e13.den ∧ e13.den < (mpN X Y n mA mB mC mD)) → (((mpf X Y mA mB ((e13.den))) = (mpf X Y mA mB e13.den)) ∧ ((mpf X Y mC mD ((e13.den))) = (mpf X Y mC mD e13.den))))))))))))))))))))))))) (by kernel_rfl) ?_
  intro h1 h2
  refine ⟨⟨rfl, ⟨rfl, ⟨rfl, rfl⟩⟩⟩, ?_, ?_⟩
  · intro c16
    refine ⟨?_, ⟨Int.le_refl _, fun _ => fun _ => ⟨rfl, rfl⟩⟩, ?_⟩
    · refine ⟨?_, ?_⟩
        -- 1: (0 : Int) = (mpN X Y n mA mB mC mD)
      · first | rfl | omega | (have hb := listB_bd (show listB X Y n = true by assumption) (i := j) (by omega) (by omega); omega) | (have hm := okM_iff.1 (by assumption : okM mA mB mC mD = true); omega) | (simp [mpf, *]; done) | (have e : j = n := (by omega); simp_all [mpN, mpB]; done) | (have e : j = n := (by omega); subst e; simp_all [mpN, mpB]; omega) | (simp [mpN, mpB, *]; done) | (simp_all [mpN, mpB]; done) | (simp_all [mpN, mpB]; omega)
        -- 2: (mpB X Y n mA mB mC mD) = false
      · first | rfl | omega | (have hb := listB_bd (show listB X Y n = true by assumption) (i := j) (by omega) (by omega); omega) | (have hm := okM_iff.1 (by assumption : okM mA mB mC mD = true); omega) | (simp [mpf, *]; done) | (have e : j = n := (by omega); simp_all [mpN, mpB]; done) | (have e : j = n := (by omega); subst e; simp_all [mpN, mpB]; omega) | (simp [mpN, mpB, *]; done) | (simp_all [mpN, mpB]; done) | (simp_all [mpN, mpB]; omega)
      -- 3: (mpN X Y n mA mB mC mD) = 0
    · first | rfl | omega | (have hb := listB_bd (show listB X Y n = true by assumption) (i := j) (by omega) (by omega); omega) | (have hm := okM_iff.1 (by assumption : okM mA mB mC mD = true); omega) | (simp [mpf, *]; done) | (have e : j = n := (by omega); simp_all [mpN, mpB]; done) | (have e : j = n := (by omega); subst e; simp_all [mpN, mpB]; omega) | (simp [mpN, mpB, *]; done) | (simp_all [mpN, mpB]; done) | (simp_all [mpN, mpB]; omega)
  · intro c17
    refine ⟨rfl, ⟨Int.le_refl _, fun _ => fun _ => ⟨rfl, rfl⟩⟩, ?_, ?_⟩
    · intro c18
      refine ⟨?_, ⟨Int.le_refl _, fun _ => fun _ => ⟨rfl, rfl⟩⟩, ?_⟩
      · refine ⟨?_, ?_⟩
          -- 4: (0 : Int) = (mpN X Y n mA mB mC mD)
        · first | rfl | omega | (have hb := listB_bd (show listB X Y n = true by assumption) (i := j) (by omega) (by omega); omega) | (have hm := okM_iff.1 (by assumption : okM mA mB mC mD = true); omega) | (simp [mpf, *]; done) | (have e : j = n := (by omega); simp_all [mpN, mpB]; done) | (have e : j = n := (by omega); subst e; simp_all [mpN, mpB]; omega) | (simp [mpN, mpB, *]; done) | (simp_all [mpN, mpB]; done) | (simp_all [mpN, mpB]; omega)
          -- 5: (mpB X Y n mA mB mC mD) = false
        · first | rfl | omega | (have hb := listB_bd (show listB X Y n = true by assumption) (i := j) (by omega) (by omega); omega) | (have hm := okM_iff.1 (by assumption : okM mA mB mC mD = true); omega) | (simp [mpf, *]; done) | (have e : j = n := (by omega); simp_all [mpN, mpB]; done) | (have e : j = n := (by omega); subst e; simp_all [mpN, mpB]; omega) | (simp [mpN, mpB, *]; done) | (simp_all [mpN, mpB]; done) | (simp_all [mpN, mpB]; omega)
        -- 6: (mpN X Y n mA mB mC mD) = 0
      · first | rfl | omega | (have hb := listB_bd (show listB X Y n = true by assumption) (i := j) (by omega) (by omega); omega) | (have hm := okM_iff.1 (by assumption : okM mA mB mC mD = true); omega) | (simp [mpf, *]; done) | (have e : j = n := (by omega); simp_all [mpN, mpB]; done) | (have e : j = n := (by omega); subst e; simp_all [mpN, mpB]; omega) | (simp [mpN, mpB, *]; done) | (simp_all [mpN, mpB]; done) | (simp_all [mpN, mpB]; omega)
    · intro c19
      refine ⟨?_, ?_⟩
      · refine ⟨0, ?_⟩
        try dsimp only
        refine ⟨?_, ?_, ⟨Int.le_refl _, fun _ => fun _ => ⟨rfl, rfl⟩⟩, ⟨rfl, ⟨rfl, ⟨rfl, rfl⟩⟩⟩, ?_⟩
          -- 7: 0 ≤ y5 ∧ y5 ≤ n
        · first | rfl | omega | (have hb := listB_bd (show listB X Y n = true by assumption) (i := j) (by omega) (by omega); omega) | (have hm := okM_iff.1 (by assumption : okM mA mB mC mD = true); omega) | (simp [mpf, *]; done) | (have e : j = n := (by omega); simp_all [mpN, mpB]; done) | (have e : j = n := (by omega); subst e; simp_all [mpN, mpB]; omega) | (simp [mpN, mpB, *]; done) | (simp_all [mpN, mpB]; done) | (simp_all [mpN, mpB]; omega)
        · refine ⟨rfl, rfl, ?_, ?_⟩
            -- 8: (0 : Int) = y5
          · first | rfl | omega | (have hb := listB_bd (show listB X Y n = true by assumption) (i := j) (by omega) (by omega); omega) | (have hm := okM_iff.1 (by assumption : okM mA mB mC mD = true); omega) | (simp [mpf, *]; done) | (have e : j = n := (by omega); simp_all [mpN, mpB]; done) | (have e : j = n := (by omega); subst e; simp_all [mpN, mpB]; omega) | (simp [mpN, mpB, *]; done) | (simp_all [mpN, mpB]; done) | (simp_all [mpN, mpB]; omega)
            -- 9: (0 : Int) = y5
          · first | rfl | omega | (have hb := listB_bd (show listB X Y n = true by assumption) (i := j) (by omega) (by omega); omega) | (have hm := okM_iff.1 (by assumption : okM mA mB mC mD = true); omega) | (simp [mpf, *]; done) | (have e : j = n := (by omega); simp_all [mpN, mpB]; done) | (have e : j = n := (by omega); subst e; simp_all [mpN, mpB]; omega) | (simp [mpN, mpB, *]; done) | (simp_all [mpN, mpB]; done) | (simp_all [mpN, mpB]; omega)
          -- 10: y5 = 0
        · first | rfl | omega | (have hb := listB_bd (show listB X Y n = true by assumption) (i := j) (by omega) (by omega); omega) | (have hm := okM_iff.1 (by assumption : okM mA mB mC mD = true); omega) | (simp [mpf, *]; done) | (have e : j = n := (by omega); simp_all [mpN, mpB]; done) | (have e : j = n := (by omega); subst e; simp_all [mpN, mpB]; omega) | (simp [mpN, mpB, *]; done) | (simp_all [mpN, mpB]; done) | (simp_all [mpN, mpB]; omega)
      · intro j
        intro I1
        refine ⟨?_, ?_⟩
        · intro c20
          refine ⟨?_, ?_, ?_, ?_, ?_⟩
            -- 11: ((0 ≤ x4) ∧ (x4 < n))
          · first | rfl | omega | (have hb := listB_bd (show listB X Y n = true by assumption) (i := j) (by omega) (by omega); omega) | (have hm := okM_iff.1 (by assumption : okM mA mB mC mD = true); omega) | (simp [mpf, *]; done) | (have e : j = n := (by omega); simp_all [mpN, mpB]; done) | (have e : j = n := (by omega); subst e; simp_all [mpN, mpB]; omega) | (simp [mpN, mpB, *]; done) | (simp_all [mpN, mpB]; done) | (simp_all [mpN, mpB]; omega)
            -- 12: x4 < n
          · first | rfl | omega | (have hb := listB_bd (show listB X Y n = true by assumption) (i := j) (by omega) (by omega); omega) | (have hm := okM_iff.1 (by assumption : okM mA mB mC mD = true); omega) | (simp [mpf, *]; done) | (have e : j = n := (by omega); simp_all [mpN, mpB]; done) | (have e : j = n := (by omega); subst e; simp_all [mpN, mpB]; omega) | (simp [mpN, mpB, *]; done) | (simp_all [mpN, mpB]; done) | (simp_all [mpN, mpB]; omega)
          · refine ⟨?_, ?_, rfl, ?_⟩
            · refine ⟨?_, ?_, ?_, rfl, ?_⟩
              · refine ⟨rfl, ?_⟩
                intro c21
                -- 13: (-1000) ≤ mA ∧ mA ≤ 1000
                first | rfl | omega | (have hb := listB_bd (show listB X Y n = true by assumption) (i := j) (by omega) (by omega); omega) | (have hm := okM_iff.1 (by assumption : okM mA mB mC mD = true); omega) | (simp [mpf, *]; done) | (have e : j = n := (by omega); simp_all [mpN, mpB]; done) | (have e : j = n := (by omega); subst e; simp_all [mpN, mpB]; omega) | (simp [mpN, mpB, *]; done) | (simp_all [mpN, mpB]; done) | (simp_all [mpN, mpB]; omega)
              · refine ⟨rfl, ?_⟩
                intro c22
                -- 14: (-1000) ≤ mB ∧ mB ≤ 1000
                first | rfl | omega | (have hb := listB_bd (show listB X Y n = true by assumption) (i := j) (by omega) (by omega); omega) | (have hm := okM_iff.1 (by assumption : okM mA mB mC mD = true); omega) | (simp [mpf, *]; done) | (have e : j = n := (by omega); simp_all [mpN, mpB]; done) | (have e : j = n := (by omega); subst e; simp_all [mpN, mpB]; omega) | (simp [mpN, mpB, *]; done) | (simp_all [mpN, mpB]; done) | (simp_all [mpN, mpB]; omega)
              · refine ⟨rfl, ?_⟩
                intro c23
                -- 15: (-1000) ≤ mC ∧ mC ≤ 1000
                first | rfl | omega | (have hb := listB_bd (show listB X Y n = true by assumption) (i := j) (by omega) (by omega); omega) | (have hm := okM_iff.1 (by assumption : okM mA mB mC mD = true); omega) | (simp [mpf, *]; done) | (have e : j = n := (by omega); simp_all [mpN, mpB]; done) | (have e : j = n := (by omega); subst e; simp_all [mpN, mpB]; omega) | (simp [mpN, mpB, *]; done) | (simp_all [mpN, mpB]; done) | (simp_all [mpN, mpB]; omega)
              · intro c24
                -- 16: (-1000) ≤ mD ∧ mD ≤ 1000
                first | rfl | omega | (have hb := listB_bd (show listB X Y n = true by assumption) (i := j) (by omega) (by omega); omega) | (have hm := okM_iff.1 (by assumption : okM mA mB mC mD = true); omega) | (simp [mpf, *]; done) | (have e : j = n := (by omega); simp_all [mpN, mpB]; done) | (have e : j = n := (by omega); subst e; simp_all [mpN, mpB]; omega) | (simp [mpN, mpB, *]; done) | (simp_all [mpN, mpB]; done) | (simp_all [mpN, mpB]; omega)
            · refine ⟨rfl, ?_⟩
              intro c25
              -- 17: (-1000) ≤ ((X (x4))) ∧ ((X (x4))) ≤ 1000
              first | rfl | omega | (have hb := listB_bd (show listB X Y n = true by assumption) (i := j) (by omega) (by omega); omega) | (have hm := okM_iff.1 (by assumption : okM mA mB mC mD = true); omega) | (simp [mpf, *]; done) | (have e : j = n := (by omega); simp_all [mpN, mpB]; done) | (have e : j = n := (by omega); subst e; simp_all [mpN, mpB]; omega) | (simp [mpN, mpB, *]; done) | (simp_all [mpN, mpB]; done) | (simp_all [mpN, mpB]; omega)
            · intro c26
              -- 18: (-1000) ≤ ((Y (x4))) ∧ ((Y (x4))) ≤ 1000
              first | rfl | omega | (have hb := listB_bd (show listB X Y n = true by assumption) (i := j) (by omega) (by omega); omega) | (have hm := okM_iff.1 (by assumption : okM mA mB mC mD = true); omega) | (simp [mpf, *]; done) | (have e : j = n := (by omega); simp_all [mpN, mpB]; done) | (have e : j = n := (by omega); subst e; simp_all [mpN, mpB]; omega) | (simp [mpN, mpB, *]; done) | (simp_all [mpN, mpB]; done) | (simp_all [mpN, mpB]; omega)
            -- 19: x4 = x4
          · first | rfl | omega | (have hb := listB_bd (show listB X Y n = true by assumption) (i := j) (by omega) (by omega); omega) | (have hm := okM_iff.1 (by assumption : okM mA mB mC mD = true); omega) | (simp [mpf, *]; done) | (have e : j = n := (by omega); simp_all [mpN, mpB]; done) | (have e : j = n := (by omega); subst e; simp_all [mpN, mpB]; omega) | (simp [mpN, mpB, *]; done) | (simp_all [mpN, mpB]; done) | (simp_all [mpN, mpB]; omega)
          · refine ⟨j + 1, ?_⟩
            try dsimp only
            refine ⟨?_, ?_, ?_⟩
              -- 20: 0 ≤ y7 ∧ y7 ≤ n
            · first | rfl | omega | (have hb := listB_bd (show listB X Y n = true by assumption) (i := j) (by omega) (by omega); omega) | (have hm := okM_iff.1 (by assumption : okM mA mB mC mD = true); omega) | (simp [mpf, *]; done) | (have e : j = n := (by omega); simp_all [mpN, mpB]; done) | (have e : j = n := (by omega); subst e; simp_all [mpN, mpB]; omega) | (simp [mpN, mpB, *]; done) | (simp_all [mpN, mpB]; done) | (simp_all [mpN, mpB]; omega)
            · refine ⟨?_, ⟨Int.le_refl _, fun _ => fun _ => ⟨rfl, rfl⟩⟩, ⟨rfl, ⟨rfl, ⟨rfl, rfl⟩⟩⟩, ?_, ⟨Int.le_refl _, fun _ => fun _ => ⟨rfl, rfl⟩⟩, ?_⟩
              · refine ⟨rfl, rfl, ?_, ?_, ?_⟩
                · refine ⟨?_, ?_⟩
                    -- 21: (x4 + 1) = y7
                  · first | rfl | omega | (have hb := listB_bd (show listB X Y n = true by assumption) (i := j) (by omega) (by omega); omega) | (have hm := okM_iff.1 (by assumption : okM mA mB mC mD = true); omega) | (simp [mpf, *]; done) | (have e : j = n := (by omega); simp_all [mpN, mpB]; done) | (have e : j = n := (by omega); subst e; simp_all [mpN, mpB]; omega) | (simp [mpN, mpB, *]; done) | (simp_all [mpN, mpB]; done) | (simp_all [mpN, mpB]; omega)
                  · intro c27
                    -- 22: y7 ≤ 1048576
                    first | rfl | omega | (have hb := listB_bd (show listB X Y n = true by assumption) (i := j) (by omega) (by omega); omega) | (have hm := okM_iff.1 (by assumption : okM mA mB mC mD = true); omega) | (simp [mpf, *]; done) | (have e : j = n := (by omega); simp_all [mpN, mpB]; done) | (have e : j = n := (by omega); subst e; simp_all [mpN, mpB]; omega) | (simp [mpN, mpB, *]; done) | (simp_all [mpN, mpB]; done) | (simp_all [mpN, mpB]; omega)
                  -- 23: (x4 + 1) = y7
                · first | rfl | omega | (have hb := listB_bd (show listB X Y n = true by assumption) (i := j) (by omega) (by omega); omega) | (have hm := okM_iff.1 (by assumption : okM mA mB mC mD = true); omega) | (simp [mpf, *]; done) | (have e : j = n := (by omega); simp_all [mpN, mpB]; done) | (have e : j = n := (by omega); subst e; simp_all [mpN, mpB]; omega) | (simp [mpN, mpB, *]; done) | (simp_all [mpN, mpB]; done) | (simp_all [mpN, mpB]; omega)
                · intro c28
                  -- 24: 0 ≤ y7 ∧ y7 ≤ 1048576
                  first | rfl | omega | (have hb := listB_bd (show listB X Y n = true by assumption) (i := j) (by omega) (by omega); omega) | (have hm := okM_iff.1 (by assumption : okM mA mB mC mD = true); omega) | (simp [mpf, *]; done) | (have e : j = n := (by omega); simp_all [mpN, mpB]; done) | (have e : j = n := (by omega); subst e; simp_all [mpN, mpB]; omega) | (simp [mpN, mpB, *]; done) | (simp_all [mpN, mpB]; done) | (simp_all [mpN, mpB]; omega)
                -- 25: (0 : Int) ≤ x4 ∧ y7 = x4 + 1
              · first | rfl | omega | (have hb := listB_bd (show listB X Y n = true by assumption) (i := j) (by omega) (by omega); omega) | (have hm := okM_iff.1 (by assumption : okM mA mB mC mD = true); omega) | (simp [mpf, *]; done) | (have e : j = n := (by omega); simp_all [mpN, mpB]; done) | (have e : j = n := (by omega); subst e; simp_all [mpN, mpB]; omega) | (simp [mpN, mpB, *]; done) | (simp_all [mpN, mpB]; done) | (simp_all [mpN, mpB]; omega)
              · intro e8
                intro c29
                refine ⟨?_, ?_⟩
                  -- 26: (mA * ((X (x4))) + mB * ((Y (x4)))) = (mpf X Y mA mB (e8.den))
                · first | rfl | omega | (have hb := listB_bd (show listB X Y n = true by assumption) (i := j) (by omega) (by omega); omega) | (have hm := okM_iff.1 (by assumption : okM mA mB mC mD = true); omega) | (simp [mpf, *]; done) | (have e : j = n := (by omega); simp_all [mpN, mpB]; done) | (have e : j = n := (by omega); subst e; simp_all [mpN, mpB]; omega) | (simp [mpN, mpB, *]; done) | (simp_all [mpN, mpB]; done) | (simp_all [mpN, mpB]; omega)
                  -- 27: (mC * ((X (x4))) + mD * ((Y (x4)))) = (mpf X Y mC mD (e8.den))
                · first | rfl | omega | (have hb := listB_bd (show listB X Y n = true by assumption) (i := j) (by omega) (by omega); omega) | (have hm := okM_iff.1 (by assumption : okM mA mB mC mD = true); omega) | (simp [mpf, *]; done) | (have e : j = n := (by omega); simp_all [mpN, mpB]; done) | (have e : j = n := (by omega); subst e; simp_all [mpN, mpB]; omega) | (simp [mpN, mpB, *]; done) | (simp_all [mpN, mpB]; done) | (simp_all [mpN, mpB]; omega)
              -- 28: (n - y7).toNat < (n - x4).toNat
            · first | rfl | omega | (have hb := listB_bd (show listB X Y n = true by assumption) (i := j) (by omega) (by omega); omega) | (have hm := okM_iff.1 (by assumption : okM mA mB mC mD = true); omega) | (simp [mpf, *]; done) | (have e : j = n := (by omega); simp_all [mpN, mpB]; done) | (have e : j = n := (by omega); subst e; simp_all [mpN, mpB]; omega) | (simp [mpN, mpB, *]; done) | (simp_all [mpN, mpB]; done) | (simp_all [mpN, mpB]; omega)
        · intro c30
          refine ⟨rfl, ⟨Int.le_refl _, fun _ => fun _ => ⟨rfl, rfl⟩⟩, ?_, ?_⟩
          · intro c31
            refine ⟨?_, ⟨Int.le_refl _, fun _ => fun _ => ⟨rfl, rfl⟩⟩, ?_⟩
            · refine ⟨?_, ?_⟩
                -- 29: (0 : Int) = (mpN X Y n mA mB mC mD)
              · first | rfl | omega | (have hb := listB_bd (show listB X Y n = true by assumption) (i := j) (by omega) (by omega); omega) | (have hm := okM_iff.1 (by assumption : okM mA mB mC mD = true); omega) | (simp [mpf, *]; done) | (have e : j = n := (by omega); simp_all [mpN, mpB]; done) | (have e : j = n := (by omega); subst e; simp_all [mpN, mpB]; omega) | (simp [mpN, mpB, *]; done) | (simp_all [mpN, mpB]; done) | (simp_all [mpN, mpB]; omega)
                -- 30: (mpB X Y n mA mB mC mD) = false
              · first | rfl | omega | (have hb := listB_bd (show listB X Y n = true by assumption) (i := j) (by omega) (by omega); omega) | (have hm := okM_iff.1 (by assumption : okM mA mB mC mD = true); omega) | (simp [mpf, *]; done) | (have e : j = n := (by omega); simp_all [mpN, mpB]; done) | (have e : j = n := (by omega); subst e; simp_all [mpN, mpB]; omega) | (simp [mpN, mpB, *]; done) | (simp_all [mpN, mpB]; done) | (simp_all [mpN, mpB]; omega)
              -- 31: (mpN X Y n mA mB mC mD) = 0
            · first | rfl | omega | (have hb := listB_bd (show listB X Y n = true by assumption) (i := j) (by omega) (by omega); omega) | (have hm := okM_iff.1 (by assumption : okM mA mB mC mD = true); omega) | (simp [mpf, *]; done) | (have e : j = n := (by omega); simp_all [mpN, mpB]; done) | (have e : j = n := (by omega); subst e; simp_all [mpN, mpB]; omega) | (simp [mpN, mpB, *]; done) | (simp_all [mpN, mpB]; done) | (simp_all [mpN, mpB]; omega)
          · intro c32
            refine ⟨?_, ⟨Int.le_refl _, fun _ => fun _ => ⟨rfl, rfl⟩⟩, ?_, fun _ => fun _ => ⟨rfl, rfl⟩⟩
            · refine ⟨?_, ?_⟩
                -- 32: x4 = (mpN X Y n mA mB mC mD)
              · first | rfl | omega | (have hb := listB_bd (show listB X Y n = true by assumption) (i := j) (by omega) (by omega); omega) | (have hm := okM_iff.1 (by assumption : okM mA mB mC mD = true); omega) | (simp [mpf, *]; done) | (have e : j = n := (by omega); simp_all [mpN, mpB]; done) | (have e : j = n := (by omega); subst e; simp_all [mpN, mpB]; omega) | (simp [mpN, mpB, *]; done) | (simp_all [mpN, mpB]; done) | (simp_all [mpN, mpB]; omega)
                -- 33: (mpB X Y n mA mB mC mD) = true
              · first | rfl | omega | (have hb := listB_bd (show listB X Y n = true by assumption) (i := j) (by omega) (by omega); omega) | (have hm := okM_iff.1 (by assumption : okM mA mB mC mD = true); omega) | (simp [mpf, *]; done) | (have e : j = n := (by omega); simp_all [mpN, mpB]; done) | (have e : j = n := (by omega); subst e; simp_all [mpN, mpB]; omega) | (simp [mpN, mpB, *]; done) | (simp_all [mpN, mpB]; done) | (simp_all [mpN, mpB]; omega)
              -- 34: (mpN X Y n mA mB mC mD) ≤ x4
            · first | rfl | omega | (have hb := listB_bd (show listB X Y n = true by assumption) (i := j) (by omega) (by omega); omega) | (have hm := okM_iff.1 (by assumption : okM mA mB mC mD = true); omega) | (simp [mpf, *]; done) | (have e : j = n := (by omega); simp_all [mpN, mpB]; done) | (have e : j = n := (by omega); subst e; simp_all [mpN, mpB]; omega) | (simp [mpN, mpB, *]; done) | (simp_all [mpN, mpB]; done) | (simp_all [mpN, mpB]; omega)
def c_s_MapPoints (mA : Int) (mB : Int) (mC : Int) (mD : Int) (X : Int → Int) (Y : Int → Int) (n : Int) : Cn Try.prog := ⟨_, _, _, _, _, s_MapPoints mA mB mC mD X Y n⟩
end Go.Proofs.Ythedmdhllcgpcaa
