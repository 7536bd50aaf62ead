/- The walk of DistortTurnMatchesSpec, part 5: it returns true and turns nothing that was there. Conditions: the pixels read as bytes. -/
import Derived.Test.YtpdjiokmafoppaaLTurn1
import Derived.Test.YtpdjiokmafoppaaLTurn2
import Derived.Test.YtpdjiokmafoppaaLTurn5
import Derived.Test.YtpdjiokmafoppaaLTurn3
import Derived.Test.YtpdjiokmafoppaaLTurn4
import Derived.Test.YtpdjiokmafoppaaLTurn6
namespace Go.Proofs.Ytpdjiokmafoppaa
open Go.RowKit

/-- The law, whatever the arguments. -/
theorem DistortTurnMatchesSpec_walk {w : World} (W H : Int) (A : Option Addr) (n c : Nat) (p : Nat → Int) (_hn : n ≤ maxLen) (_hp : Byt p) (hr : RdB w A n p) (s : Int) (_hs : (Lit.int .i64 s).wf = true) (t : Int) (_ht : (Lit.int .i64 t).wf = true) :
    Calls Try.prog 13 #[iv W H A n c, .int .i64 s, .int .i64 t] w fun e w' => e = .returned (.bool true) ∧ Below w.heap.size w w' := by
  rcases imgF_cases W H n with hi | hi <;> by_cases ht : 0 ≤ t ∧ t ≤ 7 <;> by_cases hs : 0 ≤ s ∧ s ≤ 7
  · exact LTurn_111 A n c W H s t p w hr hi ht hs
  · exact LTurn_110 A n c W H s t p w hr hi ht (by omega)
  · exact LTurn_101 A n c W H s t p w hr hi (by omega) hs
  · exact LTurn_100 A n c W H s t p w hr hi (by omega) (by omega)
  · exact LTurn_011 A n c W H s t p w hr hi ht hs
  · exact LTurn_010 A n c W H s t p w hr hi ht (by omega)
  · exact LTurn_001 A n c W H s t p w hr hi (by omega) hs
  · exact LTurn_000 A n c W H s t p w hr hi (by omega) (by omega)

end Go.Proofs.Ytpdjiokmafoppaa
