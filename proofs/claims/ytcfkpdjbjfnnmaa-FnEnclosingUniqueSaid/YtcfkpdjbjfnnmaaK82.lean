/- The support of the smallest circle: the contract of the program. -/
import Derived.Test.YtcfkpdjbjfnnmaaK81
import Derived.Test.YtcfkpdjbjfnnmaaSj
set_option linter.unusedSimpArgs false
set_option linter.unusedVariables false
set_option maxRecDepth 100000
namespace Go.Proofs.Ytcfkpdjbjfnnmaa
open Go.Sym
theorem es_bd {X Y : Int → Int} {n e : Int} (h0 : 0 ≤ e) (h1 : e < esM X Y n) (hn : n ≤ 1048576) : 0 ≤ esA X Y n e ∧ esA X Y n e ≤ 1048576 := by
  have h := lA_at (l := esL X Y n) (n := n) esL_bd.2.1 h0 h1
  unfold esA
  omega
theorem i_EnclosingSupport (X : Int → Int) (Y : Int → Int) (n : Int) : RunsTo Try.prog 22 [(.sl 0 2 (.lit 0) (.v fun _ => n) 1048576)] [some ⟨50, 2, true, (.sym (.v fun _ => n) fun e => [(.int .i64 (.v fun _ => (X (e.den))) (-9223372036854775808) 9223372036854775807), (.int .i64 (.v fun _ => (Y (e.den))) (-9223372036854775808) 9223372036854775807)])⟩] (.sl 1 1 (.lit 0) (.v fun _ => esM X Y n) 3) [some ⟨50, 2, true, (.sym (.v fun _ => n) fun e => [(.int .i64 (.v fun _ => (X (e.den))) (-9223372036854775808) 9223372036854775807), (.int .i64 (.v fun _ => (Y (e.den))) (-9223372036854775808) 9223372036854775807)])⟩, some ⟨3, 1, true, (.sym (.v fun _ => esM X Y n) fun e => [(.int .i64 (.v fun _ => esA X Y n e.den) (-9223372036854775808) 9223372036854775807)])⟩] := RunsTo.narrow (iES_runs true X Y n) ⟨⟨rfl, rfl, rfl, rfl, fun h => h⟩, trivial⟩ rfl rfl fun _ _ => ⟨rfl, rfl, rfl, rfl, fun _ => (esM_bd X Y n).2⟩
def c_i_EnclosingSupport (X : Int → Int) (Y : Int → Int) (n : Int) : Cn Try.prog := ⟨_, _, _, _, _, i_EnclosingSupport X Y n⟩
end Go.Proofs.Ytcfkpdjbjfnnmaa
