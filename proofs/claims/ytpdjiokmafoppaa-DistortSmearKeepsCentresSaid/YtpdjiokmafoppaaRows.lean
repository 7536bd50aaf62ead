/-
  No cell of these rows narrows 'for every input' (looked for: loops, veiled, ifaces, maps, wideKeys, modest, calm, conditions, laid).
  DERIVED. THE GIVEN ROWS OF THIS SEAT. 22 by the template 'for every input the law returns true; each argument reads behind the call as it read before'; 0 by the template 'total and deterministic' (their statements: YtpdjiokmafoppaaTotals.lean).
  GIVEN WITH THE SEED: the statements are not yours to turn. If you find one false, say at which input.
  Laid BY PROGRAM, IN A SANDBOX (cutbox-rows.mjs): the forced cells as the released guide's own fill.sh prints them over the translation f945a8c0a3fc32cc… (all of the seat's roots in one cut). By AI agents, Wed Nov 11 2026. No macro, syntax, notation, axiom, sorry.
-/
import Derived.Test.YtpdjiokmafoppaaChecked
import GoSem.Claim
import GoSem.ClaimJoined
import GoSem.ClaimMapViews
import Derived.JoinedTies
import Derived.KernelRfl
namespace Go.Proofs.Ytpdjiokmafoppaa
/- THE CELL 'sum', in the pinned program and in every row, IS THE sha256 OF THE DUMP (.gsa) THAT YtpdjiokmafoppaaProg.lean LOADS. Nothing in Lean hashes anything: it is a label: what it is worth is what the hold of that sum in a sandbox is worth. -/
noncomputable def Try.pinned : Pinned := { name := "ytpdjiokmafoppaa", sum := "f945a8c0a3fc32ccd420f8c3b3fe9dba18c5fd47a8e4719f72a38e67c5f71265", checked := Try.checked }
namespace Rows
def none {H : Type} : Left H := { results := [], args := [] }

/-- 'scriptoriumlaw6.RenderMatchesSpec': WHATEVER THE INPUT: true; the input reads as it did. -/
def renderMatchesSpecSpec : ChangeSpec := { name := "renderMatchesSpec", fn := fun _ => fun
  | [d1, d2, d3, d4, d5] => { results := [.lit (.bool true)], args := [d1, d2, d3, d4, d5] }
  | _ => none }
def renderMatchesSpecRow : OpenClaim := { program := "ytpdjiokmafoppaa", sum := "f945a8c0a3fc32ccd420f8c3b3fe9dba18c5fd47a8e4719f72a38e67c5f71265", func := "scriptorium/scriptoriumlaw6.RenderMatchesSpec", spec := "renderMatchesSpec", unfollowed := true, recurses := true, apart := false }
def RenderMatchesSpecSaid : Prop := renderMatchesSpecRow.holds Try.pinned (OpenSpec.ofChange renderMatchesSpecSpec)

/-- ITS FALSE NEIGHBOUR: 'it returns false'. Refute it at one input. -/
def renderMatchesSpecWrong : ChangeSpec := { name := "renderMatchesSpec", fn := fun _ => fun
  | [d1, d2, d3, d4, d5] => { results := [.lit (.bool false)], args := [d1, d2, d3, d4, d5] }
  | _ => none }
def RenderMatchesSpecWrongFalsely : Prop := renderMatchesSpecRow.holds Try.pinned (OpenSpec.ofChange renderMatchesSpecWrong)

/-- 'scriptoriumlaw6.RenderMarginsOnlyMove': WHATEVER THE INPUT: true; the input reads as it did. -/
def renderMarginsOnlyMoveSpec : ChangeSpec := { name := "renderMarginsOnlyMove", fn := fun _ => fun
  | [d1, d2, d3, d4, d5, d6] => { results := [.lit (.bool true)], args := [d1, d2, d3, d4, d5, d6] }
  | _ => none }
def renderMarginsOnlyMoveRow : OpenClaim := { program := "ytpdjiokmafoppaa", sum := "f945a8c0a3fc32ccd420f8c3b3fe9dba18c5fd47a8e4719f72a38e67c5f71265", func := "scriptorium/scriptoriumlaw6.RenderMarginsOnlyMove", spec := "renderMarginsOnlyMove", unfollowed := true, recurses := true, apart := false }
def RenderMarginsOnlyMoveSaid : Prop := renderMarginsOnlyMoveRow.holds Try.pinned (OpenSpec.ofChange renderMarginsOnlyMoveSpec)

/-- ITS FALSE NEIGHBOUR: 'it returns false'. Refute it at one input. -/
def renderMarginsOnlyMoveWrong : ChangeSpec := { name := "renderMarginsOnlyMove", fn := fun _ => fun
  | [d1, d2, d3, d4, d5, d6] => { results := [.lit (.bool false)], args := [d1, d2, d3, d4, d5, d6] }
  | _ => none }
def RenderMarginsOnlyMoveWrongFalsely : Prop := renderMarginsOnlyMoveRow.holds Try.pinned (OpenSpec.ofChange renderMarginsOnlyMoveWrong)

/-- 'scriptoriumlaw6.FitRangeMatchesSpec': WHATEVER THE INPUT: true; the input reads as it did. -/
def fitRangeMatchesSpecSpec : ChangeSpec := { name := "fitRangeMatchesSpec", fn := fun _ => fun
  | [d1, d2] => { results := [.lit (.bool true)], args := [d1, d2] }
  | _ => none }
def fitRangeMatchesSpecRow : OpenClaim := { program := "ytpdjiokmafoppaa", sum := "f945a8c0a3fc32ccd420f8c3b3fe9dba18c5fd47a8e4719f72a38e67c5f71265", func := "scriptorium/scriptoriumlaw6.FitRangeMatchesSpec", spec := "fitRangeMatchesSpec", unfollowed := true, recurses := true, apart := false }
def FitRangeMatchesSpecSaid : Prop := fitRangeMatchesSpecRow.holds Try.pinned (OpenSpec.ofChange fitRangeMatchesSpecSpec)

/-- ITS FALSE NEIGHBOUR: 'it returns false'. Refute it at one input. -/
def fitRangeMatchesSpecWrong : ChangeSpec := { name := "fitRangeMatchesSpec", fn := fun _ => fun
  | [d1, d2] => { results := [.lit (.bool false)], args := [d1, d2] }
  | _ => none }
def FitRangeMatchesSpecWrongFalsely : Prop := fitRangeMatchesSpecRow.holds Try.pinned (OpenSpec.ofChange fitRangeMatchesSpecWrong)

/-- 'scriptoriumlaw6.FitFillMatchesSpec': WHATEVER THE INPUT: true; the input reads as it did. -/
def fitFillMatchesSpecSpec : ChangeSpec := { name := "fitFillMatchesSpec", fn := fun _ => fun
  | [d] => { results := [.lit (.bool true)], args := [d] }
  | _ => none }
def fitFillMatchesSpecRow : OpenClaim := { program := "ytpdjiokmafoppaa", sum := "f945a8c0a3fc32ccd420f8c3b3fe9dba18c5fd47a8e4719f72a38e67c5f71265", func := "scriptorium/scriptoriumlaw6.FitFillMatchesSpec", spec := "fitFillMatchesSpec", unfollowed := true, recurses := true, apart := false }
def FitFillMatchesSpecSaid : Prop := fitFillMatchesSpecRow.holds Try.pinned (OpenSpec.ofChange fitFillMatchesSpecSpec)

/-- ITS FALSE NEIGHBOUR: 'it returns false'. Refute it at one input. -/
def fitFillMatchesSpecWrong : ChangeSpec := { name := "fitFillMatchesSpec", fn := fun _ => fun
  | [d] => { results := [.lit (.bool false)], args := [d] }
  | _ => none }
def FitFillMatchesSpecWrongFalsely : Prop := fitFillMatchesSpecRow.holds Try.pinned (OpenSpec.ofChange fitFillMatchesSpecWrong)

/-- 'scriptoriumlaw6.FitMorePointsNarrow': WHATEVER THE INPUT: true; the input reads as it did. -/
def fitMorePointsNarrowSpec : ChangeSpec := { name := "fitMorePointsNarrow", fn := fun _ => fun
  | [d1, d2, d3, d4] => { results := [.lit (.bool true)], args := [d1, d2, d3, d4] }
  | _ => none }
def fitMorePointsNarrowRow : OpenClaim := { program := "ytpdjiokmafoppaa", sum := "f945a8c0a3fc32ccd420f8c3b3fe9dba18c5fd47a8e4719f72a38e67c5f71265", func := "scriptorium/scriptoriumlaw6.FitMorePointsNarrow", spec := "fitMorePointsNarrow", unfollowed := true, recurses := true, apart := false }
def FitMorePointsNarrowSaid : Prop := fitMorePointsNarrowRow.holds Try.pinned (OpenSpec.ofChange fitMorePointsNarrowSpec)

/-- ITS FALSE NEIGHBOUR: 'it returns false'. Refute it at one input. -/
def fitMorePointsNarrowWrong : ChangeSpec := { name := "fitMorePointsNarrow", fn := fun _ => fun
  | [d1, d2, d3, d4] => { results := [.lit (.bool false)], args := [d1, d2, d3, d4] }
  | _ => none }
def FitMorePointsNarrowWrongFalsely : Prop := fitMorePointsNarrowRow.holds Try.pinned (OpenSpec.ofChange fitMorePointsNarrowWrong)

/-- 'scriptoriumlaw6.FitFillIsExact': WHATEVER THE INPUT: true; the input reads as it did. -/
def fitFillIsExactSpec : ChangeSpec := { name := "fitFillIsExact", fn := fun _ => fun
  | [d1, d2] => { results := [.lit (.bool true)], args := [d1, d2] }
  | _ => none }
def fitFillIsExactRow : OpenClaim := { program := "ytpdjiokmafoppaa", sum := "f945a8c0a3fc32ccd420f8c3b3fe9dba18c5fd47a8e4719f72a38e67c5f71265", func := "scriptorium/scriptoriumlaw6.FitFillIsExact", spec := "fitFillIsExact", unfollowed := true, recurses := true, apart := false }
def FitFillIsExactSaid : Prop := fitFillIsExactRow.holds Try.pinned (OpenSpec.ofChange fitFillIsExactSpec)

/-- ITS FALSE NEIGHBOUR: 'it returns false'. Refute it at one input. -/
def fitFillIsExactWrong : ChangeSpec := { name := "fitFillIsExact", fn := fun _ => fun
  | [d1, d2] => { results := [.lit (.bool false)], args := [d1, d2] }
  | _ => none }
def FitFillIsExactWrongFalsely : Prop := fitFillIsExactRow.holds Try.pinned (OpenSpec.ofChange fitFillIsExactWrong)

/-- 'scriptoriumlaw6.FitThroughMatchesSpec': WHATEVER THE INPUT: true; the input reads as it did. -/
def fitThroughMatchesSpecSpec : ChangeSpec := { name := "fitThroughMatchesSpec", fn := fun _ => fun
  | [d1, d2, d3] => { results := [.lit (.bool true)], args := [d1, d2, d3] }
  | _ => none }
def fitThroughMatchesSpecRow : OpenClaim := { program := "ytpdjiokmafoppaa", sum := "f945a8c0a3fc32ccd420f8c3b3fe9dba18c5fd47a8e4719f72a38e67c5f71265", func := "scriptorium/scriptoriumlaw6.FitThroughMatchesSpec", spec := "fitThroughMatchesSpec", unfollowed := true, recurses := true, apart := false }
def FitThroughMatchesSpecSaid : Prop := fitThroughMatchesSpecRow.holds Try.pinned (OpenSpec.ofChange fitThroughMatchesSpecSpec)

/-- ITS FALSE NEIGHBOUR: 'it returns false'. Refute it at one input. -/
def fitThroughMatchesSpecWrong : ChangeSpec := { name := "fitThroughMatchesSpec", fn := fun _ => fun
  | [d1, d2, d3] => { results := [.lit (.bool false)], args := [d1, d2, d3] }
  | _ => none }
def FitThroughMatchesSpecWrongFalsely : Prop := fitThroughMatchesSpecRow.holds Try.pinned (OpenSpec.ofChange fitThroughMatchesSpecWrong)

/-- 'scriptoriumlaw6.FitFindsLines': WHATEVER THE INPUT: true; the input reads as it did. -/
def fitFindsLinesSpec : ChangeSpec := { name := "fitFindsLines", fn := fun _ => fun
  | [d1, d2, d3] => { results := [.lit (.bool true)], args := [d1, d2, d3] }
  | _ => none }
def fitFindsLinesRow : OpenClaim := { program := "ytpdjiokmafoppaa", sum := "f945a8c0a3fc32ccd420f8c3b3fe9dba18c5fd47a8e4719f72a38e67c5f71265", func := "scriptorium/scriptoriumlaw6.FitFindsLines", spec := "fitFindsLines", unfollowed := true, recurses := true, apart := false }
def FitFindsLinesSaid : Prop := fitFindsLinesRow.holds Try.pinned (OpenSpec.ofChange fitFindsLinesSpec)

/-- ITS FALSE NEIGHBOUR: 'it returns false'. Refute it at one input. -/
def fitFindsLinesWrong : ChangeSpec := { name := "fitFindsLines", fn := fun _ => fun
  | [d1, d2, d3] => { results := [.lit (.bool false)], args := [d1, d2, d3] }
  | _ => none }
def FitFindsLinesWrongFalsely : Prop := fitFindsLinesRow.holds Try.pinned (OpenSpec.ofChange fitFindsLinesWrong)

/-- 'scriptoriumlaw6.DistortSmearMatchesSpec': WHATEVER THE INPUT: true; the input reads as it did. -/
def distortSmearMatchesSpecSpec : ChangeSpec := { name := "distortSmearMatchesSpec", fn := fun _ => fun
  | [d] => { results := [.lit (.bool true)], args := [d] }
  | _ => none }
def distortSmearMatchesSpecRow : OpenClaim := { program := "ytpdjiokmafoppaa", sum := "f945a8c0a3fc32ccd420f8c3b3fe9dba18c5fd47a8e4719f72a38e67c5f71265", func := "scriptorium/scriptoriumlaw6.DistortSmearMatchesSpec", spec := "distortSmearMatchesSpec", unfollowed := true, recurses := true, apart := false }
def DistortSmearMatchesSpecSaid : Prop := distortSmearMatchesSpecRow.holds Try.pinned (OpenSpec.ofChange distortSmearMatchesSpecSpec)

/-- ITS FALSE NEIGHBOUR: 'it returns false'. Refute it at one input. -/
def distortSmearMatchesSpecWrong : ChangeSpec := { name := "distortSmearMatchesSpec", fn := fun _ => fun
  | [d] => { results := [.lit (.bool false)], args := [d] }
  | _ => none }
def DistortSmearMatchesSpecWrongFalsely : Prop := distortSmearMatchesSpecRow.holds Try.pinned (OpenSpec.ofChange distortSmearMatchesSpecWrong)

/-- 'scriptoriumlaw6.DistortSmearTurns': WHATEVER THE INPUT: true; the input reads as it did. -/
def distortSmearTurnsSpec : ChangeSpec := { name := "distortSmearTurns", fn := fun _ => fun
  | [d1, d2] => { results := [.lit (.bool true)], args := [d1, d2] }
  | _ => none }
def distortSmearTurnsRow : OpenClaim := { program := "ytpdjiokmafoppaa", sum := "f945a8c0a3fc32ccd420f8c3b3fe9dba18c5fd47a8e4719f72a38e67c5f71265", func := "scriptorium/scriptoriumlaw6.DistortSmearTurns", spec := "distortSmearTurns", unfollowed := true, recurses := true, apart := false }
def DistortSmearTurnsSaid : Prop := distortSmearTurnsRow.holds Try.pinned (OpenSpec.ofChange distortSmearTurnsSpec)

/-- ITS FALSE NEIGHBOUR: 'it returns false'. Refute it at one input. -/
def distortSmearTurnsWrong : ChangeSpec := { name := "distortSmearTurns", fn := fun _ => fun
  | [d1, d2] => { results := [.lit (.bool false)], args := [d1, d2] }
  | _ => none }
def DistortSmearTurnsWrongFalsely : Prop := distortSmearTurnsRow.holds Try.pinned (OpenSpec.ofChange distortSmearTurnsWrong)

/-- 'scriptoriumlaw6.DistortTurnMatchesSpec': WHATEVER THE INPUT: true; the input reads as it did. -/
def distortTurnMatchesSpecSpec : ChangeSpec := { name := "distortTurnMatchesSpec", fn := fun _ => fun
  | [d1, d2, d3] => { results := [.lit (.bool true)], args := [d1, d2, d3] }
  | _ => none }
def distortTurnMatchesSpecRow : OpenClaim := { program := "ytpdjiokmafoppaa", sum := "f945a8c0a3fc32ccd420f8c3b3fe9dba18c5fd47a8e4719f72a38e67c5f71265", func := "scriptorium/scriptoriumlaw6.DistortTurnMatchesSpec", spec := "distortTurnMatchesSpec", unfollowed := true, recurses := true, apart := false }
def DistortTurnMatchesSpecSaid : Prop := distortTurnMatchesSpecRow.holds Try.pinned (OpenSpec.ofChange distortTurnMatchesSpecSpec)

/-- ITS FALSE NEIGHBOUR: 'it returns false'. Refute it at one input. -/
def distortTurnMatchesSpecWrong : ChangeSpec := { name := "distortTurnMatchesSpec", fn := fun _ => fun
  | [d1, d2, d3] => { results := [.lit (.bool false)], args := [d1, d2, d3] }
  | _ => none }
def DistortTurnMatchesSpecWrongFalsely : Prop := distortTurnMatchesSpecRow.holds Try.pinned (OpenSpec.ofChange distortTurnMatchesSpecWrong)

/-- 'scriptoriumlaw6.DistortTurnsCompose': WHATEVER THE INPUT: true; the input reads as it did. -/
def distortTurnsComposeSpec : ChangeSpec := { name := "distortTurnsCompose", fn := fun _ => fun
  | [d1, d2, d3] => { results := [.lit (.bool true)], args := [d1, d2, d3] }
  | _ => none }
def distortTurnsComposeRow : OpenClaim := { program := "ytpdjiokmafoppaa", sum := "f945a8c0a3fc32ccd420f8c3b3fe9dba18c5fd47a8e4719f72a38e67c5f71265", func := "scriptorium/scriptoriumlaw6.DistortTurnsCompose", spec := "distortTurnsCompose", unfollowed := true, recurses := true, apart := false }
def DistortTurnsComposeSaid : Prop := distortTurnsComposeRow.holds Try.pinned (OpenSpec.ofChange distortTurnsComposeSpec)

/-- ITS FALSE NEIGHBOUR: 'it returns false'. Refute it at one input. -/
def distortTurnsComposeWrong : ChangeSpec := { name := "distortTurnsCompose", fn := fun _ => fun
  | [d1, d2, d3] => { results := [.lit (.bool false)], args := [d1, d2, d3] }
  | _ => none }
def DistortTurnsComposeWrongFalsely : Prop := distortTurnsComposeRow.holds Try.pinned (OpenSpec.ofChange distortTurnsComposeWrong)

/-- 'scriptoriumlaw6.DistortShiftsMatchSpec': WHATEVER THE INPUT: true; the input reads as it did. -/
def distortShiftsMatchSpecSpec : ChangeSpec := { name := "distortShiftsMatchSpec", fn := fun _ => fun
  | [d1, d2] => { results := [.lit (.bool true)], args := [d1, d2] }
  | _ => none }
def distortShiftsMatchSpecRow : OpenClaim := { program := "ytpdjiokmafoppaa", sum := "f945a8c0a3fc32ccd420f8c3b3fe9dba18c5fd47a8e4719f72a38e67c5f71265", func := "scriptorium/scriptoriumlaw6.DistortShiftsMatchSpec", spec := "distortShiftsMatchSpec", unfollowed := true, recurses := true, apart := false }
def DistortShiftsMatchSpecSaid : Prop := distortShiftsMatchSpecRow.holds Try.pinned (OpenSpec.ofChange distortShiftsMatchSpecSpec)

/-- ITS FALSE NEIGHBOUR: 'it returns false'. Refute it at one input. -/
def distortShiftsMatchSpecWrong : ChangeSpec := { name := "distortShiftsMatchSpec", fn := fun _ => fun
  | [d1, d2] => { results := [.lit (.bool false)], args := [d1, d2] }
  | _ => none }
def DistortShiftsMatchSpecWrongFalsely : Prop := distortShiftsMatchSpecRow.holds Try.pinned (OpenSpec.ofChange distortShiftsMatchSpecWrong)

/-- 'scriptoriumlaw6.DistortShiftsAreTransposed': WHATEVER THE INPUT: true; the input reads as it did. -/
def distortShiftsAreTransposedSpec : ChangeSpec := { name := "distortShiftsAreTransposed", fn := fun _ => fun
  | [d1, d2] => { results := [.lit (.bool true)], args := [d1, d2] }
  | _ => none }
def distortShiftsAreTransposedRow : OpenClaim := { program := "ytpdjiokmafoppaa", sum := "f945a8c0a3fc32ccd420f8c3b3fe9dba18c5fd47a8e4719f72a38e67c5f71265", func := "scriptorium/scriptoriumlaw6.DistortShiftsAreTransposed", spec := "distortShiftsAreTransposed", unfollowed := true, recurses := true, apart := false }
def DistortShiftsAreTransposedSaid : Prop := distortShiftsAreTransposedRow.holds Try.pinned (OpenSpec.ofChange distortShiftsAreTransposedSpec)

/-- ITS FALSE NEIGHBOUR: 'it returns false'. Refute it at one input. -/
def distortShiftsAreTransposedWrong : ChangeSpec := { name := "distortShiftsAreTransposed", fn := fun _ => fun
  | [d1, d2] => { results := [.lit (.bool false)], args := [d1, d2] }
  | _ => none }
def DistortShiftsAreTransposedWrongFalsely : Prop := distortShiftsAreTransposedRow.holds Try.pinned (OpenSpec.ofChange distortShiftsAreTransposedWrong)

/-- 'scriptoriumlaw6.DistortTearsAreLocal': WHATEVER THE INPUT: true; the input reads as it did. -/
def distortTearsAreLocalSpec : ChangeSpec := { name := "distortTearsAreLocal", fn := fun _ => fun
  | [d1, d2, d3, d4] => { results := [.lit (.bool true)], args := [d1, d2, d3, d4] }
  | _ => none }
def distortTearsAreLocalRow : OpenClaim := { program := "ytpdjiokmafoppaa", sum := "f945a8c0a3fc32ccd420f8c3b3fe9dba18c5fd47a8e4719f72a38e67c5f71265", func := "scriptorium/scriptoriumlaw6.DistortTearsAreLocal", spec := "distortTearsAreLocal", unfollowed := true, recurses := true, apart := false }
def DistortTearsAreLocalSaid : Prop := distortTearsAreLocalRow.holds Try.pinned (OpenSpec.ofChange distortTearsAreLocalSpec)

/-- ITS FALSE NEIGHBOUR: 'it returns false'. Refute it at one input. -/
def distortTearsAreLocalWrong : ChangeSpec := { name := "distortTearsAreLocal", fn := fun _ => fun
  | [d1, d2, d3, d4] => { results := [.lit (.bool false)], args := [d1, d2, d3, d4] }
  | _ => none }
def DistortTearsAreLocalWrongFalsely : Prop := distortTearsAreLocalRow.holds Try.pinned (OpenSpec.ofChange distortTearsAreLocalWrong)

/-- 'scriptoriumlaw6.DistortDamageMatchesSpec': WHATEVER THE INPUT: true; the input reads as it did. -/
def distortDamageMatchesSpecSpec : ChangeSpec := { name := "distortDamageMatchesSpec", fn := fun _ => fun
  | [d1, d2, d3] => { results := [.lit (.bool true)], args := [d1, d2, d3] }
  | _ => none }
def distortDamageMatchesSpecRow : OpenClaim := { program := "ytpdjiokmafoppaa", sum := "f945a8c0a3fc32ccd420f8c3b3fe9dba18c5fd47a8e4719f72a38e67c5f71265", func := "scriptorium/scriptoriumlaw6.DistortDamageMatchesSpec", spec := "distortDamageMatchesSpec", unfollowed := true, recurses := true, apart := false }
def DistortDamageMatchesSpecSaid : Prop := distortDamageMatchesSpecRow.holds Try.pinned (OpenSpec.ofChange distortDamageMatchesSpecSpec)

/-- ITS FALSE NEIGHBOUR: 'it returns false'. Refute it at one input. -/
def distortDamageMatchesSpecWrong : ChangeSpec := { name := "distortDamageMatchesSpec", fn := fun _ => fun
  | [d1, d2, d3] => { results := [.lit (.bool false)], args := [d1, d2, d3] }
  | _ => none }
def DistortDamageMatchesSpecWrongFalsely : Prop := distortDamageMatchesSpecRow.holds Try.pinned (OpenSpec.ofChange distortDamageMatchesSpecWrong)

/-- 'scriptoriumlaw6.DistortSmearKeepsCentres': WHATEVER THE INPUT: true; the input reads as it did. -/
def distortSmearKeepsCentresSpec : ChangeSpec := { name := "distortSmearKeepsCentres", fn := fun _ => fun
  | [d1, d2, d3, d4, d5] => { results := [.lit (.bool true)], args := [d1, d2, d3, d4, d5] }
  | _ => none }
def distortSmearKeepsCentresRow : OpenClaim := { program := "ytpdjiokmafoppaa", sum := "f945a8c0a3fc32ccd420f8c3b3fe9dba18c5fd47a8e4719f72a38e67c5f71265", func := "scriptorium/scriptoriumlaw6.DistortSmearKeepsCentres", spec := "distortSmearKeepsCentres", unfollowed := true, recurses := true, apart := false }
def DistortSmearKeepsCentresSaid : Prop := distortSmearKeepsCentresRow.holds Try.pinned (OpenSpec.ofChange distortSmearKeepsCentresSpec)

/-- ITS FALSE NEIGHBOUR: 'it returns false'. Refute it at one input. -/
def distortSmearKeepsCentresWrong : ChangeSpec := { name := "distortSmearKeepsCentres", fn := fun _ => fun
  | [d1, d2, d3, d4, d5] => { results := [.lit (.bool false)], args := [d1, d2, d3, d4, d5] }
  | _ => none }
def DistortSmearKeepsCentresWrongFalsely : Prop := distortSmearKeepsCentresRow.holds Try.pinned (OpenSpec.ofChange distortSmearKeepsCentresWrong)

/-- 'scriptoriumlaw6.DistortApplyMatchesSpec': WHATEVER THE INPUT: true; the input reads as it did. -/
def distortApplyMatchesSpecSpec : ChangeSpec := { name := "distortApplyMatchesSpec", fn := fun _ => fun
  | [d1, d2] => { results := [.lit (.bool true)], args := [d1, d2] }
  | _ => none }
def distortApplyMatchesSpecRow : OpenClaim := { program := "ytpdjiokmafoppaa", sum := "f945a8c0a3fc32ccd420f8c3b3fe9dba18c5fd47a8e4719f72a38e67c5f71265", func := "scriptorium/scriptoriumlaw6.DistortApplyMatchesSpec", spec := "distortApplyMatchesSpec", unfollowed := true, recurses := true, apart := false }
def DistortApplyMatchesSpecSaid : Prop := distortApplyMatchesSpecRow.holds Try.pinned (OpenSpec.ofChange distortApplyMatchesSpecSpec)

/-- ITS FALSE NEIGHBOUR: 'it returns false'. Refute it at one input. -/
def distortApplyMatchesSpecWrong : ChangeSpec := { name := "distortApplyMatchesSpec", fn := fun _ => fun
  | [d1, d2] => { results := [.lit (.bool false)], args := [d1, d2] }
  | _ => none }
def DistortApplyMatchesSpecWrongFalsely : Prop := distortApplyMatchesSpecRow.holds Try.pinned (OpenSpec.ofChange distortApplyMatchesSpecWrong)

/-- 'scriptoriumlaw6.SampleStraightMatchesSpec': WHATEVER THE INPUT: true; the input reads as it did. -/
def sampleStraightMatchesSpecSpec : ChangeSpec := { name := "sampleStraightMatchesSpec", fn := fun _ => fun
  | [d1, d2] => { results := [.lit (.bool true)], args := [d1, d2] }
  | _ => none }
def sampleStraightMatchesSpecRow : OpenClaim := { program := "ytpdjiokmafoppaa", sum := "f945a8c0a3fc32ccd420f8c3b3fe9dba18c5fd47a8e4719f72a38e67c5f71265", func := "scriptorium/scriptoriumlaw6.SampleStraightMatchesSpec", spec := "sampleStraightMatchesSpec", unfollowed := true, recurses := true, apart := false }
def SampleStraightMatchesSpecSaid : Prop := sampleStraightMatchesSpecRow.holds Try.pinned (OpenSpec.ofChange sampleStraightMatchesSpecSpec)

/-- ITS FALSE NEIGHBOUR: 'it returns false'. Refute it at one input. -/
def sampleStraightMatchesSpecWrong : ChangeSpec := { name := "sampleStraightMatchesSpec", fn := fun _ => fun
  | [d1, d2] => { results := [.lit (.bool false)], args := [d1, d2] }
  | _ => none }
def SampleStraightMatchesSpecWrongFalsely : Prop := sampleStraightMatchesSpecRow.holds Try.pinned (OpenSpec.ofChange sampleStraightMatchesSpecWrong)

/-- 'scriptoriumlaw6.SampleCellsMatchSpec': WHATEVER THE INPUT: true; the input reads as it did. -/
def sampleCellsMatchSpecSpec : ChangeSpec := { name := "sampleCellsMatchSpec", fn := fun _ => fun
  | [d1, d2] => { results := [.lit (.bool true)], args := [d1, d2] }
  | _ => none }
def sampleCellsMatchSpecRow : OpenClaim := { program := "ytpdjiokmafoppaa", sum := "f945a8c0a3fc32ccd420f8c3b3fe9dba18c5fd47a8e4719f72a38e67c5f71265", func := "scriptorium/scriptoriumlaw6.SampleCellsMatchSpec", spec := "sampleCellsMatchSpec", unfollowed := true, recurses := true, apart := false }
def SampleCellsMatchSpecSaid : Prop := sampleCellsMatchSpecRow.holds Try.pinned (OpenSpec.ofChange sampleCellsMatchSpecSpec)

/-- ITS FALSE NEIGHBOUR: 'it returns false'. Refute it at one input. -/
def sampleCellsMatchSpecWrong : ChangeSpec := { name := "sampleCellsMatchSpec", fn := fun _ => fun
  | [d1, d2] => { results := [.lit (.bool false)], args := [d1, d2] }
  | _ => none }
def SampleCellsMatchSpecWrongFalsely : Prop := sampleCellsMatchSpecRow.holds Try.pinned (OpenSpec.ofChange sampleCellsMatchSpecWrong)

/-- 'scriptoriumlaw6.DistortScanMatchesSpec': WHATEVER THE INPUT: true; the input reads as it did. -/
def distortScanMatchesSpecSpec : ChangeSpec := { name := "distortScanMatchesSpec", fn := fun _ => fun
  | [d1, d2] => { results := [.lit (.bool true)], args := [d1, d2] }
  | _ => none }
def distortScanMatchesSpecRow : OpenClaim := { program := "ytpdjiokmafoppaa", sum := "f945a8c0a3fc32ccd420f8c3b3fe9dba18c5fd47a8e4719f72a38e67c5f71265", func := "scriptorium/scriptoriumlaw6.DistortScanMatchesSpec", spec := "distortScanMatchesSpec", unfollowed := true, recurses := true, apart := false }
def DistortScanMatchesSpecSaid : Prop := distortScanMatchesSpecRow.holds Try.pinned (OpenSpec.ofChange distortScanMatchesSpecSpec)

/-- ITS FALSE NEIGHBOUR: 'it returns false'. Refute it at one input. -/
def distortScanMatchesSpecWrong : ChangeSpec := { name := "distortScanMatchesSpec", fn := fun _ => fun
  | [d1, d2] => { results := [.lit (.bool false)], args := [d1, d2] }
  | _ => none }
def DistortScanMatchesSpecWrongFalsely : Prop := distortScanMatchesSpecRow.holds Try.pinned (OpenSpec.ofChange distortScanMatchesSpecWrong)

/-- 'scriptoriumlaw6.DistortScanKeepsCentres': WHATEVER THE INPUT: true; the input reads as it did. -/
def distortScanKeepsCentresSpec : ChangeSpec := { name := "distortScanKeepsCentres", fn := fun _ => fun
  | [d1, d2, d3] => { results := [.lit (.bool true)], args := [d1, d2, d3] }
  | _ => none }
def distortScanKeepsCentresRow : OpenClaim := { program := "ytpdjiokmafoppaa", sum := "f945a8c0a3fc32ccd420f8c3b3fe9dba18c5fd47a8e4719f72a38e67c5f71265", func := "scriptorium/scriptoriumlaw6.DistortScanKeepsCentres", spec := "distortScanKeepsCentres", unfollowed := true, recurses := true, apart := false }
def DistortScanKeepsCentresSaid : Prop := distortScanKeepsCentresRow.holds Try.pinned (OpenSpec.ofChange distortScanKeepsCentresSpec)

/-- ITS FALSE NEIGHBOUR: 'it returns false'. Refute it at one input. -/
def distortScanKeepsCentresWrong : ChangeSpec := { name := "distortScanKeepsCentres", fn := fun _ => fun
  | [d1, d2, d3] => { results := [.lit (.bool false)], args := [d1, d2, d3] }
  | _ => none }
def DistortScanKeepsCentresWrongFalsely : Prop := distortScanKeepsCentresRow.holds Try.pinned (OpenSpec.ofChange distortScanKeepsCentresWrong)

/- THE SECOND FORM. 'bulk': how many values and letters a reading holds, each counted each time it is reached (what is shared counts as often as it is met; a slice's spare places count too). A statement '..UptoSaid' is the law's where the arguments, and the package variables that the reading takes, are together of bulk at most 1048576: NARROWER than '..Said'. Prove '..Said' where nothing that the law and all that it calls make is longer than what came in: it says more and counts as full. Else prove '..UptoSaid'. A law counts once. -/
mutual
def uptoBulk {H : Type} : DataW H → Nat
  | .lit (.string bytes) => bytes.length + 1
  | .lit _ => 1
  | .nil => 1
  | .ptr d => uptoBulk d + 1
  | .slice elems spare => uptoBulkAll elems + uptoBulkAll spare + 1
  | .agg parts => uptoBulkAll parts + 1
  | .iface _ d => uptoBulk d + 1
  | .map entries => uptoBulkEntries entries + 1
  | .held _ => 1
def uptoBulkAll {H : Type} : List (DataW H) → Nat
  | [] => 0
  | d :: r => uptoBulk d + uptoBulkAll r
def uptoBulkEntries {H : Type} : List (Lit × DataW H) → Nat
  | [] => 0
  | x :: r => uptoBulkEntry x + uptoBulkEntries r
def uptoBulkEntry {H : Type} : Lit × DataW H → Nat
  | (.string bytes, d) => bytes.length + uptoBulk d + 1
  | (_, d) => uptoBulk d + 1
 end
def uptoSmall : (H : Type) → List (DataW H) → Bool := fun _ ds => decide (uptoBulkAll ds ≤ 1048576)
def OpenSpec.upto (s : _root_.Go.ChangeSpec) : _root_.Go.OpenSpec := { _root_.Go.OpenSpec.ofChange s with cond := some uptoSmall }

/-- 'scriptoriumlaw6.RenderMatchesSpec', WHERE WHAT IT READS IS OF BULK AT MOST 1048576: true; the input reads as it did. -/
def renderMatchesSpecUptoRow : OpenClaim := { program := "ytpdjiokmafoppaa", sum := "f945a8c0a3fc32ccd420f8c3b3fe9dba18c5fd47a8e4719f72a38e67c5f71265", func := "scriptorium/scriptoriumlaw6.RenderMatchesSpec", spec := "renderMatchesSpec", unfollowed := true, recurses := true, apart := false, narrowed := true }
def RenderMatchesSpecUptoSaid : Prop := renderMatchesSpecUptoRow.holds Try.pinned (OpenSpec.upto renderMatchesSpecSpec)

/-- 'scriptoriumlaw6.RenderMarginsOnlyMove', WHERE WHAT IT READS IS OF BULK AT MOST 1048576: true; the input reads as it did. -/
def renderMarginsOnlyMoveUptoRow : OpenClaim := { program := "ytpdjiokmafoppaa", sum := "f945a8c0a3fc32ccd420f8c3b3fe9dba18c5fd47a8e4719f72a38e67c5f71265", func := "scriptorium/scriptoriumlaw6.RenderMarginsOnlyMove", spec := "renderMarginsOnlyMove", unfollowed := true, recurses := true, apart := false, narrowed := true }
def RenderMarginsOnlyMoveUptoSaid : Prop := renderMarginsOnlyMoveUptoRow.holds Try.pinned (OpenSpec.upto renderMarginsOnlyMoveSpec)

/-- 'scriptoriumlaw6.FitRangeMatchesSpec', WHERE WHAT IT READS IS OF BULK AT MOST 1048576: true; the input reads as it did. -/
def fitRangeMatchesSpecUptoRow : OpenClaim := { program := "ytpdjiokmafoppaa", sum := "f945a8c0a3fc32ccd420f8c3b3fe9dba18c5fd47a8e4719f72a38e67c5f71265", func := "scriptorium/scriptoriumlaw6.FitRangeMatchesSpec", spec := "fitRangeMatchesSpec", unfollowed := true, recurses := true, apart := false, narrowed := true }
def FitRangeMatchesSpecUptoSaid : Prop := fitRangeMatchesSpecUptoRow.holds Try.pinned (OpenSpec.upto fitRangeMatchesSpecSpec)

/-- 'scriptoriumlaw6.FitFillMatchesSpec', WHERE WHAT IT READS IS OF BULK AT MOST 1048576: true; the input reads as it did. -/
def fitFillMatchesSpecUptoRow : OpenClaim := { program := "ytpdjiokmafoppaa", sum := "f945a8c0a3fc32ccd420f8c3b3fe9dba18c5fd47a8e4719f72a38e67c5f71265", func := "scriptorium/scriptoriumlaw6.FitFillMatchesSpec", spec := "fitFillMatchesSpec", unfollowed := true, recurses := true, apart := false, narrowed := true }
def FitFillMatchesSpecUptoSaid : Prop := fitFillMatchesSpecUptoRow.holds Try.pinned (OpenSpec.upto fitFillMatchesSpecSpec)

/-- 'scriptoriumlaw6.FitMorePointsNarrow', WHERE WHAT IT READS IS OF BULK AT MOST 1048576: true; the input reads as it did. -/
def fitMorePointsNarrowUptoRow : OpenClaim := { program := "ytpdjiokmafoppaa", sum := "f945a8c0a3fc32ccd420f8c3b3fe9dba18c5fd47a8e4719f72a38e67c5f71265", func := "scriptorium/scriptoriumlaw6.FitMorePointsNarrow", spec := "fitMorePointsNarrow", unfollowed := true, recurses := true, apart := false, narrowed := true }
def FitMorePointsNarrowUptoSaid : Prop := fitMorePointsNarrowUptoRow.holds Try.pinned (OpenSpec.upto fitMorePointsNarrowSpec)

/-- 'scriptoriumlaw6.FitFillIsExact', WHERE WHAT IT READS IS OF BULK AT MOST 1048576: true; the input reads as it did. -/
def fitFillIsExactUptoRow : OpenClaim := { program := "ytpdjiokmafoppaa", sum := "f945a8c0a3fc32ccd420f8c3b3fe9dba18c5fd47a8e4719f72a38e67c5f71265", func := "scriptorium/scriptoriumlaw6.FitFillIsExact", spec := "fitFillIsExact", unfollowed := true, recurses := true, apart := false, narrowed := true }
def FitFillIsExactUptoSaid : Prop := fitFillIsExactUptoRow.holds Try.pinned (OpenSpec.upto fitFillIsExactSpec)

/-- 'scriptoriumlaw6.FitThroughMatchesSpec', WHERE WHAT IT READS IS OF BULK AT MOST 1048576: true; the input reads as it did. -/
def fitThroughMatchesSpecUptoRow : OpenClaim := { program := "ytpdjiokmafoppaa", sum := "f945a8c0a3fc32ccd420f8c3b3fe9dba18c5fd47a8e4719f72a38e67c5f71265", func := "scriptorium/scriptoriumlaw6.FitThroughMatchesSpec", spec := "fitThroughMatchesSpec", unfollowed := true, recurses := true, apart := false, narrowed := true }
def FitThroughMatchesSpecUptoSaid : Prop := fitThroughMatchesSpecUptoRow.holds Try.pinned (OpenSpec.upto fitThroughMatchesSpecSpec)

/-- 'scriptoriumlaw6.FitFindsLines', WHERE WHAT IT READS IS OF BULK AT MOST 1048576: true; the input reads as it did. -/
def fitFindsLinesUptoRow : OpenClaim := { program := "ytpdjiokmafoppaa", sum := "f945a8c0a3fc32ccd420f8c3b3fe9dba18c5fd47a8e4719f72a38e67c5f71265", func := "scriptorium/scriptoriumlaw6.FitFindsLines", spec := "fitFindsLines", unfollowed := true, recurses := true, apart := false, narrowed := true }
def FitFindsLinesUptoSaid : Prop := fitFindsLinesUptoRow.holds Try.pinned (OpenSpec.upto fitFindsLinesSpec)

/-- 'scriptoriumlaw6.DistortSmearMatchesSpec', WHERE WHAT IT READS IS OF BULK AT MOST 1048576: true; the input reads as it did. -/
def distortSmearMatchesSpecUptoRow : OpenClaim := { program := "ytpdjiokmafoppaa", sum := "f945a8c0a3fc32ccd420f8c3b3fe9dba18c5fd47a8e4719f72a38e67c5f71265", func := "scriptorium/scriptoriumlaw6.DistortSmearMatchesSpec", spec := "distortSmearMatchesSpec", unfollowed := true, recurses := true, apart := false, narrowed := true }
def DistortSmearMatchesSpecUptoSaid : Prop := distortSmearMatchesSpecUptoRow.holds Try.pinned (OpenSpec.upto distortSmearMatchesSpecSpec)

/-- 'scriptoriumlaw6.DistortSmearTurns', WHERE WHAT IT READS IS OF BULK AT MOST 1048576: true; the input reads as it did. -/
def distortSmearTurnsUptoRow : OpenClaim := { program := "ytpdjiokmafoppaa", sum := "f945a8c0a3fc32ccd420f8c3b3fe9dba18c5fd47a8e4719f72a38e67c5f71265", func := "scriptorium/scriptoriumlaw6.DistortSmearTurns", spec := "distortSmearTurns", unfollowed := true, recurses := true, apart := false, narrowed := true }
def DistortSmearTurnsUptoSaid : Prop := distortSmearTurnsUptoRow.holds Try.pinned (OpenSpec.upto distortSmearTurnsSpec)

/-- 'scriptoriumlaw6.DistortTurnMatchesSpec', WHERE WHAT IT READS IS OF BULK AT MOST 1048576: true; the input reads as it did. -/
def distortTurnMatchesSpecUptoRow : OpenClaim := { program := "ytpdjiokmafoppaa", sum := "f945a8c0a3fc32ccd420f8c3b3fe9dba18c5fd47a8e4719f72a38e67c5f71265", func := "scriptorium/scriptoriumlaw6.DistortTurnMatchesSpec", spec := "distortTurnMatchesSpec", unfollowed := true, recurses := true, apart := false, narrowed := true }
def DistortTurnMatchesSpecUptoSaid : Prop := distortTurnMatchesSpecUptoRow.holds Try.pinned (OpenSpec.upto distortTurnMatchesSpecSpec)

/-- 'scriptoriumlaw6.DistortTurnsCompose', WHERE WHAT IT READS IS OF BULK AT MOST 1048576: true; the input reads as it did. -/
def distortTurnsComposeUptoRow : OpenClaim := { program := "ytpdjiokmafoppaa", sum := "f945a8c0a3fc32ccd420f8c3b3fe9dba18c5fd47a8e4719f72a38e67c5f71265", func := "scriptorium/scriptoriumlaw6.DistortTurnsCompose", spec := "distortTurnsCompose", unfollowed := true, recurses := true, apart := false, narrowed := true }
def DistortTurnsComposeUptoSaid : Prop := distortTurnsComposeUptoRow.holds Try.pinned (OpenSpec.upto distortTurnsComposeSpec)

/-- 'scriptoriumlaw6.DistortShiftsMatchSpec', WHERE WHAT IT READS IS OF BULK AT MOST 1048576: true; the input reads as it did. -/
def distortShiftsMatchSpecUptoRow : OpenClaim := { program := "ytpdjiokmafoppaa", sum := "f945a8c0a3fc32ccd420f8c3b3fe9dba18c5fd47a8e4719f72a38e67c5f71265", func := "scriptorium/scriptoriumlaw6.DistortShiftsMatchSpec", spec := "distortShiftsMatchSpec", unfollowed := true, recurses := true, apart := false, narrowed := true }
def DistortShiftsMatchSpecUptoSaid : Prop := distortShiftsMatchSpecUptoRow.holds Try.pinned (OpenSpec.upto distortShiftsMatchSpecSpec)

/-- 'scriptoriumlaw6.DistortShiftsAreTransposed', WHERE WHAT IT READS IS OF BULK AT MOST 1048576: true; the input reads as it did. -/
def distortShiftsAreTransposedUptoRow : OpenClaim := { program := "ytpdjiokmafoppaa", sum := "f945a8c0a3fc32ccd420f8c3b3fe9dba18c5fd47a8e4719f72a38e67c5f71265", func := "scriptorium/scriptoriumlaw6.DistortShiftsAreTransposed", spec := "distortShiftsAreTransposed", unfollowed := true, recurses := true, apart := false, narrowed := true }
def DistortShiftsAreTransposedUptoSaid : Prop := distortShiftsAreTransposedUptoRow.holds Try.pinned (OpenSpec.upto distortShiftsAreTransposedSpec)

/-- 'scriptoriumlaw6.DistortTearsAreLocal', WHERE WHAT IT READS IS OF BULK AT MOST 1048576: true; the input reads as it did. -/
def distortTearsAreLocalUptoRow : OpenClaim := { program := "ytpdjiokmafoppaa", sum := "f945a8c0a3fc32ccd420f8c3b3fe9dba18c5fd47a8e4719f72a38e67c5f71265", func := "scriptorium/scriptoriumlaw6.DistortTearsAreLocal", spec := "distortTearsAreLocal", unfollowed := true, recurses := true, apart := false, narrowed := true }
def DistortTearsAreLocalUptoSaid : Prop := distortTearsAreLocalUptoRow.holds Try.pinned (OpenSpec.upto distortTearsAreLocalSpec)

/-- 'scriptoriumlaw6.DistortDamageMatchesSpec', WHERE WHAT IT READS IS OF BULK AT MOST 1048576: true; the input reads as it did. -/
def distortDamageMatchesSpecUptoRow : OpenClaim := { program := "ytpdjiokmafoppaa", sum := "f945a8c0a3fc32ccd420f8c3b3fe9dba18c5fd47a8e4719f72a38e67c5f71265", func := "scriptorium/scriptoriumlaw6.DistortDamageMatchesSpec", spec := "distortDamageMatchesSpec", unfollowed := true, recurses := true, apart := false, narrowed := true }
def DistortDamageMatchesSpecUptoSaid : Prop := distortDamageMatchesSpecUptoRow.holds Try.pinned (OpenSpec.upto distortDamageMatchesSpecSpec)

/-- 'scriptoriumlaw6.DistortSmearKeepsCentres', WHERE WHAT IT READS IS OF BULK AT MOST 1048576: true; the input reads as it did. -/
def distortSmearKeepsCentresUptoRow : OpenClaim := { program := "ytpdjiokmafoppaa", sum := "f945a8c0a3fc32ccd420f8c3b3fe9dba18c5fd47a8e4719f72a38e67c5f71265", func := "scriptorium/scriptoriumlaw6.DistortSmearKeepsCentres", spec := "distortSmearKeepsCentres", unfollowed := true, recurses := true, apart := false, narrowed := true }
def DistortSmearKeepsCentresUptoSaid : Prop := distortSmearKeepsCentresUptoRow.holds Try.pinned (OpenSpec.upto distortSmearKeepsCentresSpec)

/-- 'scriptoriumlaw6.DistortApplyMatchesSpec', WHERE WHAT IT READS IS OF BULK AT MOST 1048576: true; the input reads as it did. -/
def distortApplyMatchesSpecUptoRow : OpenClaim := { program := "ytpdjiokmafoppaa", sum := "f945a8c0a3fc32ccd420f8c3b3fe9dba18c5fd47a8e4719f72a38e67c5f71265", func := "scriptorium/scriptoriumlaw6.DistortApplyMatchesSpec", spec := "distortApplyMatchesSpec", unfollowed := true, recurses := true, apart := false, narrowed := true }
def DistortApplyMatchesSpecUptoSaid : Prop := distortApplyMatchesSpecUptoRow.holds Try.pinned (OpenSpec.upto distortApplyMatchesSpecSpec)

/-- 'scriptoriumlaw6.SampleStraightMatchesSpec', WHERE WHAT IT READS IS OF BULK AT MOST 1048576: true; the input reads as it did. -/
def sampleStraightMatchesSpecUptoRow : OpenClaim := { program := "ytpdjiokmafoppaa", sum := "f945a8c0a3fc32ccd420f8c3b3fe9dba18c5fd47a8e4719f72a38e67c5f71265", func := "scriptorium/scriptoriumlaw6.SampleStraightMatchesSpec", spec := "sampleStraightMatchesSpec", unfollowed := true, recurses := true, apart := false, narrowed := true }
def SampleStraightMatchesSpecUptoSaid : Prop := sampleStraightMatchesSpecUptoRow.holds Try.pinned (OpenSpec.upto sampleStraightMatchesSpecSpec)

/-- 'scriptoriumlaw6.SampleCellsMatchSpec', WHERE WHAT IT READS IS OF BULK AT MOST 1048576: true; the input reads as it did. -/
def sampleCellsMatchSpecUptoRow : OpenClaim := { program := "ytpdjiokmafoppaa", sum := "f945a8c0a3fc32ccd420f8c3b3fe9dba18c5fd47a8e4719f72a38e67c5f71265", func := "scriptorium/scriptoriumlaw6.SampleCellsMatchSpec", spec := "sampleCellsMatchSpec", unfollowed := true, recurses := true, apart := false, narrowed := true }
def SampleCellsMatchSpecUptoSaid : Prop := sampleCellsMatchSpecUptoRow.holds Try.pinned (OpenSpec.upto sampleCellsMatchSpecSpec)

/-- 'scriptoriumlaw6.DistortScanMatchesSpec', WHERE WHAT IT READS IS OF BULK AT MOST 1048576: true; the input reads as it did. -/
def distortScanMatchesSpecUptoRow : OpenClaim := { program := "ytpdjiokmafoppaa", sum := "f945a8c0a3fc32ccd420f8c3b3fe9dba18c5fd47a8e4719f72a38e67c5f71265", func := "scriptorium/scriptoriumlaw6.DistortScanMatchesSpec", spec := "distortScanMatchesSpec", unfollowed := true, recurses := true, apart := false, narrowed := true }
def DistortScanMatchesSpecUptoSaid : Prop := distortScanMatchesSpecUptoRow.holds Try.pinned (OpenSpec.upto distortScanMatchesSpecSpec)

/-- 'scriptoriumlaw6.DistortScanKeepsCentres', WHERE WHAT IT READS IS OF BULK AT MOST 1048576: true; the input reads as it did. -/
def distortScanKeepsCentresUptoRow : OpenClaim := { program := "ytpdjiokmafoppaa", sum := "f945a8c0a3fc32ccd420f8c3b3fe9dba18c5fd47a8e4719f72a38e67c5f71265", func := "scriptorium/scriptoriumlaw6.DistortScanKeepsCentres", spec := "distortScanKeepsCentres", unfollowed := true, recurses := true, apart := false, narrowed := true }
def DistortScanKeepsCentresUptoSaid : Prop := distortScanKeepsCentresUptoRow.holds Try.pinned (OpenSpec.upto distortScanKeepsCentresSpec)

end Rows
end Go.Proofs.Ytpdjiokmafoppaa
