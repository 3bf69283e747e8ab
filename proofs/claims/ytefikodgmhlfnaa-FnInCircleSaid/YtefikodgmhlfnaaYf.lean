/- A reckoning of code by values known in part: small words for walks. -/
import Derived.Test.YtefikodgmhlfnaaYe
set_option linter.unusedSimpArgs false
set_option linter.unusedVariables false
namespace Go.Sym
mutual
theorem leP_refl : ∀ a : AV, leP a a
  | .any => trivial
  | .int .. => ⟨rfl, rfl, fun h1 h2 => ⟨h1, h2⟩⟩
  | .bool _ => rfl
  | .ptr .. => ⟨rfl, rfl, rfl, rfl⟩
  | .sl .. => ⟨rfl, rfl, rfl, rfl, fun h => h⟩
  | .agg l => lePs_refl l
  | .tup l => lePs_refl l
  | .fn _ l => ⟨⟨rfl, rfl⟩, lePs_refl l⟩
  | .raw _ => rfl
theorem lePs_refl : ∀ l : List AV, lePs l l
  | [] => trivial
  | a :: l => ⟨leP_refl a, lePs_refl l⟩
end
theorem rowsP_refl : ∀ l : List (List AV), rowsP l l
  | [] => trivial
  | a :: l => ⟨lePs_refl a, rowsP_refl l⟩
def flatMem : List (Option Blk) → Bool
  | [] => true
  | some ⟨_, _, _, .lit _⟩ :: l => flatMem l
  | some ⟨_, _, _, .sym _ _⟩ :: l => flatMem l
  | none :: l => flatMem l
  | _ => false
theorem memQ_refl : ∀ m : List (Option Blk), flatMem m = true → memQ m m
  | [], _ => trivial
  | some ⟨_, _, _, .lit rows⟩ :: l, h => ⟨⟨rfl, rfl, rfl, rowsP_refl rows⟩, memQ_refl l h⟩
  | some ⟨_, _, _, .sym n f⟩ :: l, h => ⟨⟨rfl, rfl, rfl, Int.le_refl _, fun e _ _ => lePs_refl (f e)⟩, memQ_refl l h⟩
  | none :: l, h => memQ_refl l h
  | some ⟨_, _, _, .snoc _ _⟩ :: _, h => by simp [flatMem] at h
  | some ⟨_, _, _, .set _ _ _⟩ :: _, h => by simp [flatMem] at h
section
variable {P : Program}
theorem ite_to {c : B} {x y : T} {Q : Fin → Prop} (hx : c.den = true → x.holds P Q) (hy : c.den = false → y.holds P Q) : (T.ite c x y).holds P Q := ⟨hx, hy⟩
theorem need_to {c : B} {x : T} {Q : Fin → Prop} (hc : c.den = true) (hx : x.holds P Q) : (T.need c x).holds P Q := ⟨hc, hx⟩
end
end Go.Sym
