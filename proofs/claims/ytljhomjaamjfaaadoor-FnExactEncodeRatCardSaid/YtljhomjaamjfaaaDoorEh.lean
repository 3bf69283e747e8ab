/- EncodeRat: the program's and the reference's. -/
import Derived.Test.YtljhomjaamjfaaaDoorEg
namespace Go.Proofs.YtljhomjaamjfaaaDoor
open Go.RowKit Go.Sort
set_option linter.unusedSimpArgs false
set_option linter.unusedVariables false
/-- A fraction's text. -/
def rtx (n d : Int) : List UInt8 := if okR n d = true then (if d = 1 then Lib.itoa n else Lib.itoa n ++ 47 :: Lib.itoa d) else []
theorem sfmt_one (n : Int) (hn : -100000000000 ≤ n ∧ n ≤ 100000000000) (w : World) : Calls Tryd.prog 8 #[.agg #[.int .i64 n, .int .i64 1]] w fun e w' => e = .returned (.string (tx (Lib.itoa n))) ∧ w.grownBy w' none := by
  have HF := hide fun W => fmt_any n hn W
  go_enter Tryd.func8, Tryd.ntmps8
  go_wp2_with fail
  refine (HF.out _).mono ?_
  rintro e w1 ⟨rfl, hk⟩
  go_wp2_with fail
  go_ret
  exact ⟨rfl, kp_trans (kp_alloc (gr_refl _ _) _) hk⟩
theorem sEnc_bad (n d : Int) (h : okR n d = false) (w : World) : Calls Tryd.prog 4 #[.agg #[.int .i64 n, .int .i64 d]] w fun e w' => e = .returned (.string (tx [])) ∧ w.grownBy w' none := by
  have HV := hide fun W => srvalid_any n d W
  rw [h] at HV
  go_enter Tryd.func4, Tryd.ntmps4
  go_wp2_with fail
  refine (HV.out _).mono ?_
  rintro e w1 ⟨rfl, hk⟩
  go_wp2_with fail
  go_ret
  exact ⟨rfl, kp_trans (kp_alloc (gr_refl _ _) _) hk⟩
theorem iEnc_bad (n d : Int) (h : okR n d = false) (w : World) : Calls Tryd.prog 6 #[.agg #[.int .i64 n, .int .i64 d]] w fun e w' => e = .returned (.string (tx [])) ∧ w.grownBy w' none := by
  have HV := hide fun W => irvalid_any n d W
  rw [h] at HV
  go_enter Tryd.func6, Tryd.ntmps6
  go_wp2_with fail
  refine (HV.out _).mono ?_
  rintro e w1 ⟨rfl, hk⟩
  go_wp2_with fail
  go_ret
  exact ⟨rfl, kp_trans (kp_alloc (gr_refl _ _) _) hk⟩
end Go.Proofs.YtljhomjaamjfaaaDoor
