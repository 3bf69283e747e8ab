/- Equality of points as one Bool. -/
import Derived.Test.YtndkhbilefljnaaBase
namespace Go.Proofs.Ytndkhbilefljnaa
open Go.RowKit
def eqP (ax ay bx bY : Int) : Bool := decide (ax = bx) && decide (ay = bY)
theorem run_eql_pt (ax ay bx bY : Int) (w : World) : (binOp .eql 46 (.agg #[.int .i64 ax, .int .i64 ay]) (.agg #[.int .i64 bx, .int .i64 bY])).run Try.prog w = .ok (.bool (eqP ax ay bx bY)) w := by
  unfold eqP
  by_cases h1 : ax = bx
  · by_cases h2 : ay = bY
    · simp [go_sem, h1, h2]
    · simp [go_sem, h1, h2]
  · simp [go_sem, h1]
theorem run_neq_pt (ax ay bx bY : Int) (w : World) : (binOp .neq 46 (.agg #[.int .i64 ax, .int .i64 ay]) (.agg #[.int .i64 bx, .int .i64 bY])).run Try.prog w = .ok (.bool (!eqP ax ay bx bY)) w := by
  unfold eqP
  by_cases h1 : ax = bx
  · by_cases h2 : ay = bY
    · simp [go_sem, h1, h2]
    · simp [go_sem, h1, h2]
  · simp [go_sem, h1]
end Go.Proofs.Ytndkhbilefljnaa
