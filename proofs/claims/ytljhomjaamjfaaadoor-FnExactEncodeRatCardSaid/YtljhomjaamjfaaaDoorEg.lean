/- The reference's numerals, of every number of a fraction. -/
import Derived.Test.YtljhomjaamjfaaaDoorEf
namespace Go.Proofs.YtljhomjaamjfaaaDoor
open Go.RowKit Go.Sort
set_option linter.unusedSimpArgs false
set_option linter.unusedVariables false
theorem tx_cons (l : List UInt8) : (⟨#[45]⟩ : ByteArray) ++ tx l = tx (45 :: l) := by
  have := tx_append [45] l
  exact this
theorem itoa_len (n : Int) (h : -100000000000 ≤ n ∧ n ≤ 100000000000) : (tx (Lib.itoa n)).size ≤ 100000000002 := by
  rw [tx_size]
  unfold Lib.itoa
  split
  · have := dd_len n.natAbs n.natAbs (Nat.le_refl _)
    simp only [List.length_cons]
    omega
  · have := dd_len n.toNat n.toNat (Nat.le_refl _)
    omega
theorem fmt_any (n : Int) (h : -100000000000 ≤ n ∧ n ≤ 100000000000) (w : World) : Calls Tryd.prog 14 #[.int .i64 n] w fun e w' => e = .returned (.string (tx (Lib.itoa n))) ∧ w.grownBy w' none := by
  by_cases hn : n < 0
  · have h1 : ¬ (n < -9223372036854775807) := by omega
    have HI := hide fun W => fmt_nat n.natAbs n.natAbs (Nat.le_refl _) (by omega) W
    have e : ((n.natAbs : Nat) : Int) = -n := by omega
    rw [e] at HI
    have hd := dd_len n.natAbs n.natAbs (Nat.le_refl _)
    have hi : Lib.itoa n = 45 :: Lib.decDigits n.natAbs := by unfold Lib.itoa; rw [if_pos hn]
    rw [hi]
    generalize Lib.decDigits n.natAbs = l at *
    clear hi e
    have hs := tx_size l
    have hw : IntKind.i64.wrap (-n) = -n := IntWalk.i64_in _ ⟨by omega, by omega⟩
    have hcat : ¬ ((⟨#[45]⟩ : ByteArray).size + (tx l).size > 9223372036854775807) := by
      have : (⟨#[45]⟩ : ByteArray).size = 1 := rfl
      omega
    clear hs
    go_enter Tryd.func14, Tryd.ntmps14
    go_wp2_with fail
    refine (HI.out _).mono ?_
    rintro e w' ⟨rfl, hk⟩
    go_wp2_with fail
    go_ret
    refine ⟨?_, hk⟩
    rw [← tx_cons]; rfl
  · have e : n = ((n.toNat : Nat) : Int) := by omega
    have hi : Lib.itoa n = Lib.decDigits n.toNat := by unfold Lib.itoa; rw [if_neg hn]
    rw [hi]
    have := fmt_nat n.toNat n.toNat (Nat.le_refl _) (by omega) w
    rw [← e] at this
    exact this
end Go.Proofs.YtljhomjaamjfaaaDoor
