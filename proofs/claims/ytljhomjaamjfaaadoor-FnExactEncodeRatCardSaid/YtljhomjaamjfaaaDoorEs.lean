/- The library's Itoa, by its contract. -/
import Derived.Test.YtljhomjaamjfaaaDoorEv
import Derived.Test.YtljhomjaamjfaaaDoorLm
import Derived.Shelf.Strconv.Itoa3
namespace Go.Proofs.YtljhomjaamjfaaaDoor
open Go.RowKit Go.Sort
set_option linter.unusedSimpArgs false
set_option linter.unusedVariables false
/-- A text of bytes. -/
def tx (l : List UInt8) : ByteArray := ⟨l.toArray⟩
abbrev Tab (w : World) : Prop := Lib.TabIs Tryd.prog w "internal/strconv.uint64pow10" .u64 Lib.pow10Tab
theorem kp_grow (w : World) (k : Nat) (os : Array Obj) : w.grownBy (grow (w.drewN k) os) none := by
  refine ⟨rfl, rfl, rfl, by simp [grow, World.drewN], fun i hi _ => ?_⟩
  simp [grow, World.drewN, Array.getElem?_append_left hi]
theorem itoa_any (n : Int) (h0 : -9223372036854775808 ≤ n) (h1 : n ≤ 9223372036854775807) (w : World) (htab : Tab w) : Calls Tryd.prog 10 #[.int .i64 n] w fun e w' => e = .returned (.string (tx (Lib.itoa n))) ∧ w.grownBy w' none := by
  refine (Any.strconv_Itoa laysM171 n h0 h1 w htab).mono ?_
  rintro e w' ⟨rfl, k, os, rfl⟩
  exact ⟨rfl, kp_grow w k os⟩
end Go.Proofs.YtljhomjaamjfaaaDoor
