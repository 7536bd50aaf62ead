/- The walk of DistortTurnMatchesSpec, part 0: it returns true and turns nothing that was there. Conditions: the pixels read as bytes. -/
import Derived.Test.YtpdjiokmafoppaaBent
import Derived.Test.YtpdjiokmafoppaaMarks
import Derived.Test.YtpdjiokmafoppaaField
namespace Go.Proofs.Ytpdjiokmafoppaa
open Go.RowKit

@[simp, go_sem] theorem undef_eq : undef = .tuple #[] := rfl

theorem In_is (a lo hi : Int) (b : Bool) (w : World) (h : inB a lo hi = b) : Calls Try.prog 32 #[.int .i64 a, .int .i64 lo, .int .i64 hi] w fun e w' => e = .returned (.bool b) ∧ w = w' := by
  subst h; exact In_any _ _ _ _

end Go.Proofs.Ytpdjiokmafoppaa
