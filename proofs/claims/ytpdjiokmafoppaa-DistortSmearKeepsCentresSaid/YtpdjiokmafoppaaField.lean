/- A field of a struct that is no variable: two rules for the walk. No conditions. -/
import Derived.Test.YtpdjiokmafoppaaBase
namespace Go.Proofs.Ytpdjiokmafoppaa
open Go.RowKit

@[go_sem] theorem fld0 (a b : Int) (w : World) : (Instr.field 28 (.agg #[.int .i64 a, .int .i64 b]) 0).run Try.prog w = .ok (.int .i64 a) w := by kernel_rfl
@[go_sem] theorem fld1 (a b : Int) (w : World) : (Instr.field 28 (.agg #[.int .i64 a, .int .i64 b]) 1).run Try.prog w = .ok (.int .i64 b) w := by kernel_rfl

end Go.Proofs.Ytpdjiokmafoppaa
