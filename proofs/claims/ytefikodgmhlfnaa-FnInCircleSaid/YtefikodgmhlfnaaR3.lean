/- Lists of points drawn. -/
import Derived.Test.YtefikodgmhlfnaaK2
set_option linter.unusedSimpArgs false
set_option linter.unusedVariables false
set_option maxRecDepth 100000
namespace Go.Proofs.Ytefikodgmhlfnaa
open Go.Sym
def anS (C : Int → Int) (n p most : Int) : Int := pk C n (p + 2 + 2 * rn C n p most) 20
def anN (C : Int → Int) (n p most : Int) : Int := if rn C n p most ≤ 0 then 0 else if anS C n p most = 0 then rn C n p most else if anS C n p most = 1 then 21 else rn C n p most
def anX (C : Int → Int) (n p most i : Int) : Int := if 0 < rn C n p most ∧ anS C n p most = 0 ∧ i = pk C n (p + 2 + 2 * rn C n p most + 1) (rn C n p most) then 1001 else if i < rn C n p most then gX C n p i else rpX C n (p + 2 + 2 * rn C n p most + 1 + 2 * (i - rn C n p most))
def anY (C : Int → Int) (n p most i : Int) : Int := if 0 < rn C n p most ∧ anS C n p most = 0 ∧ i = pk C n (p + 2 + 2 * rn C n p most + 1) (rn C n p most) then 0 else if i < rn C n p most then gY C n p i else rpY C n (p + 2 + 2 * rn C n p most + 1 + 2 * (i - rn C n p most))
def anP (C : Int → Int) (n p most : Int) : Int := if rn C n p most ≤ 0 then p + 2 + 2 * rn C n p most else if anS C n p most = 0 then p + 2 + 2 * rn C n p most + 1 + 1 else if anS C n p most = 1 then p + 2 + 2 * rn C n p most + 1 + 2 * (21 - rn C n p most) else p + 2 + 2 * rn C n p most + 1
def exQ (C : Int → Int) (n : Int) : Int := anP C n 0 8
end Go.Proofs.Ytefikodgmhlfnaa
