/-
  No cell of these rows narrows 'for every input' (looked for: loops, veiled, ifaces, maps, wideKeys, modest, calm, conditions, laid).
  DERIVED. THE GIVEN ROWS OF THIS SEAT. 20 by the template 'for every input the law returns true; each argument reads behind the call as it read before'; 0 by the template 'total and deterministic' (their statements: YtdlehfnlibddcaaTotals.lean).
  GIVEN WITH THE SEED: the statements are not yours to turn. If you find one false, say at which input.
  Laid BY PROGRAM, IN A SANDBOX (cutbox-rows.mjs): the forced cells as the released guide's own fill.sh prints them over the translation d66bf547798ba137… (all of the seat's roots in one cut). By AI agents, Wed Nov 11 2026. No macro, syntax, notation, axiom, sorry.
-/
import Derived.Test.YtdlehfnlibddcaaChecked
import GoSem.Claim
import GoSem.ClaimJoined
import GoSem.ClaimMapViews
import Derived.JoinedTies
import Derived.KernelRfl
namespace Go.Proofs.Ytdlehfnlibddcaa
/- THE CELL 'sum', in the pinned program and in every row, IS THE sha256 OF THE DUMP (.gsa) THAT YtdlehfnlibddcaaProg.lean LOADS. Nothing in Lean hashes anything: it is a label: what it is worth is what the hold of that sum in a sandbox is worth. -/
noncomputable def Try.pinned : Pinned := { name := "ytdlehfnlibddcaa", sum := "d66bf547798ba137d61afe1f2dccf149af2aa859e2ccbb542e8919119749bad6", checked := Try.checked }
namespace Rows
def none {H : Type} : Left H := { results := [], args := [] }

/-- 'laws.FnSpiral': WHATEVER THE INPUT: true; the input reads as it did. -/
def fnSpiralSpec : ChangeSpec := { name := "fnSpiral", fn := fun _ => fun
  | [d] => { results := [.lit (.bool true)], args := [d] }
  | _ => none }
def fnSpiralRow : OpenClaim := { program := "ytdlehfnlibddcaa", sum := "d66bf547798ba137d61afe1f2dccf149af2aa859e2ccbb542e8919119749bad6", func := "loop.example/g03229/laws.FnSpiral", spec := "fnSpiral", unfollowed := true, recurses := true, apart := false }
def FnSpiralSaid : Prop := fnSpiralRow.holds Try.pinned (OpenSpec.ofChange fnSpiralSpec)

/-- ITS FALSE NEIGHBOUR: 'it returns false'. Refute it at one input. -/
def fnSpiralWrong : ChangeSpec := { name := "fnSpiral", fn := fun _ => fun
  | [d] => { results := [.lit (.bool false)], args := [d] }
  | _ => none }
def FnSpiralWrongFalsely : Prop := fnSpiralRow.holds Try.pinned (OpenSpec.ofChange fnSpiralWrong)

/-- 'laws.FnBayer': WHATEVER THE INPUT: true; the input reads as it did. -/
def fnBayerSpec : ChangeSpec := { name := "fnBayer", fn := fun _ => fun
  | [d] => { results := [.lit (.bool true)], args := [d] }
  | _ => none }
def fnBayerRow : OpenClaim := { program := "ytdlehfnlibddcaa", sum := "d66bf547798ba137d61afe1f2dccf149af2aa859e2ccbb542e8919119749bad6", func := "loop.example/g03229/laws.FnBayer", spec := "fnBayer", unfollowed := true, recurses := true, apart := false }
def FnBayerSaid : Prop := fnBayerRow.holds Try.pinned (OpenSpec.ofChange fnBayerSpec)

/-- ITS FALSE NEIGHBOUR: 'it returns false'. Refute it at one input. -/
def fnBayerWrong : ChangeSpec := { name := "fnBayer", fn := fun _ => fun
  | [d] => { results := [.lit (.bool false)], args := [d] }
  | _ => none }
def FnBayerWrongFalsely : Prop := fnBayerRow.holds Try.pinned (OpenSpec.ofChange fnBayerWrong)

/-- 'laws.FnExactSpiralMatrix': WHATEVER THE INPUT: true; the input reads as it did. -/
def fnExactSpiralMatrixSpec : ChangeSpec := { name := "fnExactSpiralMatrix", fn := fun _ => fun
  | [d] => { results := [.lit (.bool true)], args := [d] }
  | _ => none }
def fnExactSpiralMatrixRow : OpenClaim := { program := "ytdlehfnlibddcaa", sum := "d66bf547798ba137d61afe1f2dccf149af2aa859e2ccbb542e8919119749bad6", func := "loop.example/g03229/laws.FnExactSpiralMatrix", spec := "fnExactSpiralMatrix", unfollowed := true, recurses := true, apart := false }
def FnExactSpiralMatrixSaid : Prop := fnExactSpiralMatrixRow.holds Try.pinned (OpenSpec.ofChange fnExactSpiralMatrixSpec)

/-- ITS FALSE NEIGHBOUR: 'it returns false'. Refute it at one input. -/
def fnExactSpiralMatrixWrong : ChangeSpec := { name := "fnExactSpiralMatrix", fn := fun _ => fun
  | [d] => { results := [.lit (.bool false)], args := [d] }
  | _ => none }
def FnExactSpiralMatrixWrongFalsely : Prop := fnExactSpiralMatrixRow.holds Try.pinned (OpenSpec.ofChange fnExactSpiralMatrixWrong)

/-- 'laws.FnTiles': WHATEVER THE INPUT: true; the input reads as it did. -/
def fnTilesSpec : ChangeSpec := { name := "fnTiles", fn := fun _ => fun
  | [d] => { results := [.lit (.bool true)], args := [d] }
  | _ => none }
def fnTilesRow : OpenClaim := { program := "ytdlehfnlibddcaa", sum := "d66bf547798ba137d61afe1f2dccf149af2aa859e2ccbb542e8919119749bad6", func := "loop.example/g03229/laws.FnTiles", spec := "fnTiles", unfollowed := true, recurses := true, apart := false }
def FnTilesSaid : Prop := fnTilesRow.holds Try.pinned (OpenSpec.ofChange fnTilesSpec)

/-- ITS FALSE NEIGHBOUR: 'it returns false'. Refute it at one input. -/
def fnTilesWrong : ChangeSpec := { name := "fnTiles", fn := fun _ => fun
  | [d] => { results := [.lit (.bool false)], args := [d] }
  | _ => none }
def FnTilesWrongFalsely : Prop := fnTilesRow.holds Try.pinned (OpenSpec.ofChange fnTilesWrong)

/-- 'laws.FnSpread': WHATEVER THE INPUT: true; the input reads as it did. -/
def fnSpreadSpec : ChangeSpec := { name := "fnSpread", fn := fun _ => fun
  | [d] => { results := [.lit (.bool true)], args := [d] }
  | _ => none }
def fnSpreadRow : OpenClaim := { program := "ytdlehfnlibddcaa", sum := "d66bf547798ba137d61afe1f2dccf149af2aa859e2ccbb542e8919119749bad6", func := "loop.example/g03229/laws.FnSpread", spec := "fnSpread", unfollowed := true, recurses := true, apart := false }
def FnSpreadSaid : Prop := fnSpreadRow.holds Try.pinned (OpenSpec.ofChange fnSpreadSpec)

/-- ITS FALSE NEIGHBOUR: 'it returns false'. Refute it at one input. -/
def fnSpreadWrong : ChangeSpec := { name := "fnSpread", fn := fun _ => fun
  | [d] => { results := [.lit (.bool false)], args := [d] }
  | _ => none }
def FnSpreadWrongFalsely : Prop := fnSpreadRow.holds Try.pinned (OpenSpec.ofChange fnSpreadWrong)

/-- 'laws.FnExactBayerMatrix': WHATEVER THE INPUT: true; the input reads as it did. -/
def fnExactBayerMatrixSpec : ChangeSpec := { name := "fnExactBayerMatrix", fn := fun _ => fun
  | [d] => { results := [.lit (.bool true)], args := [d] }
  | _ => none }
def fnExactBayerMatrixRow : OpenClaim := { program := "ytdlehfnlibddcaa", sum := "d66bf547798ba137d61afe1f2dccf149af2aa859e2ccbb542e8919119749bad6", func := "loop.example/g03229/laws.FnExactBayerMatrix", spec := "fnExactBayerMatrix", unfollowed := true, recurses := true, apart := false }
def FnExactBayerMatrixSaid : Prop := fnExactBayerMatrixRow.holds Try.pinned (OpenSpec.ofChange fnExactBayerMatrixSpec)

/-- ITS FALSE NEIGHBOUR: 'it returns false'. Refute it at one input. -/
def fnExactBayerMatrixWrong : ChangeSpec := { name := "fnExactBayerMatrix", fn := fun _ => fun
  | [d] => { results := [.lit (.bool false)], args := [d] }
  | _ => none }
def FnExactBayerMatrixWrongFalsely : Prop := fnExactBayerMatrixRow.holds Try.pinned (OpenSpec.ofChange fnExactBayerMatrixWrong)

/-- 'laws.FnExactBlurPicture': WHATEVER THE INPUT: true; the input reads as it did. -/
def fnExactBlurPictureSpec : ChangeSpec := { name := "fnExactBlurPicture", fn := fun _ => fun
  | [d1, d2, d3] => { results := [.lit (.bool true)], args := [d1, d2, d3] }
  | _ => none }
def fnExactBlurPictureRow : OpenClaim := { program := "ytdlehfnlibddcaa", sum := "d66bf547798ba137d61afe1f2dccf149af2aa859e2ccbb542e8919119749bad6", func := "loop.example/g03229/laws.FnExactBlurPicture", spec := "fnExactBlurPicture", unfollowed := true, recurses := true, apart := false }
def FnExactBlurPictureSaid : Prop := fnExactBlurPictureRow.holds Try.pinned (OpenSpec.ofChange fnExactBlurPictureSpec)

/-- ITS FALSE NEIGHBOUR: 'it returns false'. Refute it at one input. -/
def fnExactBlurPictureWrong : ChangeSpec := { name := "fnExactBlurPicture", fn := fun _ => fun
  | [d1, d2, d3] => { results := [.lit (.bool false)], args := [d1, d2, d3] }
  | _ => none }
def FnExactBlurPictureWrongFalsely : Prop := fnExactBlurPictureRow.holds Try.pinned (OpenSpec.ofChange fnExactBlurPictureWrong)

/-- 'laws.FnExactTileSums': WHATEVER THE INPUT: true; the input reads as it did. -/
def fnExactTileSumsSpec : ChangeSpec := { name := "fnExactTileSums", fn := fun _ => fun
  | [d1, d2, d3] => { results := [.lit (.bool true)], args := [d1, d2, d3] }
  | _ => none }
def fnExactTileSumsRow : OpenClaim := { program := "ytdlehfnlibddcaa", sum := "d66bf547798ba137d61afe1f2dccf149af2aa859e2ccbb542e8919119749bad6", func := "loop.example/g03229/laws.FnExactTileSums", spec := "fnExactTileSums", unfollowed := true, recurses := true, apart := false }
def FnExactTileSumsSaid : Prop := fnExactTileSumsRow.holds Try.pinned (OpenSpec.ofChange fnExactTileSumsSpec)

/-- ITS FALSE NEIGHBOUR: 'it returns false'. Refute it at one input. -/
def fnExactTileSumsWrong : ChangeSpec := { name := "fnExactTileSums", fn := fun _ => fun
  | [d1, d2, d3] => { results := [.lit (.bool false)], args := [d1, d2, d3] }
  | _ => none }
def FnExactTileSumsWrongFalsely : Prop := fnExactTileSumsRow.holds Try.pinned (OpenSpec.ofChange fnExactTileSumsWrong)

/-- 'laws.FnDoubled': WHATEVER THE INPUT: true; the input reads as it did. -/
def fnDoubledSpec : ChangeSpec := { name := "fnDoubled", fn := fun _ => fun
  | [d] => { results := [.lit (.bool true)], args := [d] }
  | _ => none }
def fnDoubledRow : OpenClaim := { program := "ytdlehfnlibddcaa", sum := "d66bf547798ba137d61afe1f2dccf149af2aa859e2ccbb542e8919119749bad6", func := "loop.example/g03229/laws.FnDoubled", spec := "fnDoubled", unfollowed := true, recurses := true, apart := false }
def FnDoubledSaid : Prop := fnDoubledRow.holds Try.pinned (OpenSpec.ofChange fnDoubledSpec)

/-- ITS FALSE NEIGHBOUR: 'it returns false'. Refute it at one input. -/
def fnDoubledWrong : ChangeSpec := { name := "fnDoubled", fn := fun _ => fun
  | [d] => { results := [.lit (.bool false)], args := [d] }
  | _ => none }
def FnDoubledWrongFalsely : Prop := fnDoubledRow.holds Try.pinned (OpenSpec.ofChange fnDoubledWrong)

/-- 'laws.FnExactDoubleMatrix': WHATEVER THE INPUT: true; the input reads as it did. -/
def fnExactDoubleMatrixSpec : ChangeSpec := { name := "fnExactDoubleMatrix", fn := fun _ => fun
  | [d] => { results := [.lit (.bool true)], args := [d] }
  | _ => none }
def fnExactDoubleMatrixRow : OpenClaim := { program := "ytdlehfnlibddcaa", sum := "d66bf547798ba137d61afe1f2dccf149af2aa859e2ccbb542e8919119749bad6", func := "loop.example/g03229/laws.FnExactDoubleMatrix", spec := "fnExactDoubleMatrix", unfollowed := true, recurses := true, apart := false }
def FnExactDoubleMatrixSaid : Prop := fnExactDoubleMatrixRow.holds Try.pinned (OpenSpec.ofChange fnExactDoubleMatrixSpec)

/-- ITS FALSE NEIGHBOUR: 'it returns false'. Refute it at one input. -/
def fnExactDoubleMatrixWrong : ChangeSpec := { name := "fnExactDoubleMatrix", fn := fun _ => fun
  | [d] => { results := [.lit (.bool false)], args := [d] }
  | _ => none }
def FnExactDoubleMatrixWrongFalsely : Prop := fnExactDoubleMatrixRow.holds Try.pinned (OpenSpec.ofChange fnExactDoubleMatrixWrong)

/-- 'laws.FnExactSpreadOf': WHATEVER THE INPUT: true; the input reads as it did. -/
def fnExactSpreadOfSpec : ChangeSpec := { name := "fnExactSpreadOf", fn := fun _ => fun
  | [d1, d2] => { results := [.lit (.bool true)], args := [d1, d2] }
  | _ => none }
def fnExactSpreadOfRow : OpenClaim := { program := "ytdlehfnlibddcaa", sum := "d66bf547798ba137d61afe1f2dccf149af2aa859e2ccbb542e8919119749bad6", func := "loop.example/g03229/laws.FnExactSpreadOf", spec := "fnExactSpreadOf", unfollowed := true, recurses := true, apart := false }
def FnExactSpreadOfSaid : Prop := fnExactSpreadOfRow.holds Try.pinned (OpenSpec.ofChange fnExactSpreadOfSpec)

/-- ITS FALSE NEIGHBOUR: 'it returns false'. Refute it at one input. -/
def fnExactSpreadOfWrong : ChangeSpec := { name := "fnExactSpreadOf", fn := fun _ => fun
  | [d1, d2] => { results := [.lit (.bool false)], args := [d1, d2] }
  | _ => none }
def FnExactSpreadOfWrongFalsely : Prop := fnExactSpreadOfRow.holds Try.pinned (OpenSpec.ofChange fnExactSpreadOfWrong)

/-- 'laws.FnExactScreenLevel': WHATEVER THE INPUT: true; the input reads as it did. -/
def fnExactScreenLevelSpec : ChangeSpec := { name := "fnExactScreenLevel", fn := fun _ => fun
  | [d1, d2, d3, d4] => { results := [.lit (.bool true)], args := [d1, d2, d3, d4] }
  | _ => none }
def fnExactScreenLevelRow : OpenClaim := { program := "ytdlehfnlibddcaa", sum := "d66bf547798ba137d61afe1f2dccf149af2aa859e2ccbb542e8919119749bad6", func := "loop.example/g03229/laws.FnExactScreenLevel", spec := "fnExactScreenLevel", unfollowed := true, recurses := true, apart := false }
def FnExactScreenLevelSaid : Prop := fnExactScreenLevelRow.holds Try.pinned (OpenSpec.ofChange fnExactScreenLevelSpec)

/-- ITS FALSE NEIGHBOUR: 'it returns false'. Refute it at one input. -/
def fnExactScreenLevelWrong : ChangeSpec := { name := "fnExactScreenLevel", fn := fun _ => fun
  | [d1, d2, d3, d4] => { results := [.lit (.bool false)], args := [d1, d2, d3, d4] }
  | _ => none }
def FnExactScreenLevelWrongFalsely : Prop := fnExactScreenLevelRow.holds Try.pinned (OpenSpec.ofChange fnExactScreenLevelWrong)

/-- 'laws.FnShifted': WHATEVER THE INPUT: true; the input reads as it did. -/
def fnShiftedSpec : ChangeSpec := { name := "fnShifted", fn := fun _ => fun
  | [d] => { results := [.lit (.bool true)], args := [d] }
  | _ => none }
def fnShiftedRow : OpenClaim := { program := "ytdlehfnlibddcaa", sum := "d66bf547798ba137d61afe1f2dccf149af2aa859e2ccbb542e8919119749bad6", func := "loop.example/g03229/laws.FnShifted", spec := "fnShifted", unfollowed := true, recurses := true, apart := false }
def FnShiftedSaid : Prop := fnShiftedRow.holds Try.pinned (OpenSpec.ofChange fnShiftedSpec)

/-- ITS FALSE NEIGHBOUR: 'it returns false'. Refute it at one input. -/
def fnShiftedWrong : ChangeSpec := { name := "fnShifted", fn := fun _ => fun
  | [d] => { results := [.lit (.bool false)], args := [d] }
  | _ => none }
def FnShiftedWrongFalsely : Prop := fnShiftedRow.holds Try.pinned (OpenSpec.ofChange fnShiftedWrong)

/-- 'laws.FnExactLevelsFor': WHATEVER THE INPUT: true; the input reads as it did. -/
def fnExactLevelsForSpec : ChangeSpec := { name := "fnExactLevelsFor", fn := fun _ => fun
  | [d1, d2] => { results := [.lit (.bool true)], args := [d1, d2] }
  | _ => none }
def fnExactLevelsForRow : OpenClaim := { program := "ytdlehfnlibddcaa", sum := "d66bf547798ba137d61afe1f2dccf149af2aa859e2ccbb542e8919119749bad6", func := "loop.example/g03229/laws.FnExactLevelsFor", spec := "fnExactLevelsFor", unfollowed := true, recurses := true, apart := false }
def FnExactLevelsForSaid : Prop := fnExactLevelsForRow.holds Try.pinned (OpenSpec.ofChange fnExactLevelsForSpec)

/-- ITS FALSE NEIGHBOUR: 'it returns false'. Refute it at one input. -/
def fnExactLevelsForWrong : ChangeSpec := { name := "fnExactLevelsFor", fn := fun _ => fun
  | [d1, d2] => { results := [.lit (.bool false)], args := [d1, d2] }
  | _ => none }
def FnExactLevelsForWrongFalsely : Prop := fnExactLevelsForRow.holds Try.pinned (OpenSpec.ofChange fnExactLevelsForWrong)

/-- 'laws.FnLevels': WHATEVER THE INPUT: true; the input reads as it did. -/
def fnLevelsSpec : ChangeSpec := { name := "fnLevels", fn := fun _ => fun
  | [d] => { results := [.lit (.bool true)], args := [d] }
  | _ => none }
def fnLevelsRow : OpenClaim := { program := "ytdlehfnlibddcaa", sum := "d66bf547798ba137d61afe1f2dccf149af2aa859e2ccbb542e8919119749bad6", func := "loop.example/g03229/laws.FnLevels", spec := "fnLevels", unfollowed := true, recurses := true, apart := false }
def FnLevelsSaid : Prop := fnLevelsRow.holds Try.pinned (OpenSpec.ofChange fnLevelsSpec)

/-- ITS FALSE NEIGHBOUR: 'it returns false'. Refute it at one input. -/
def fnLevelsWrong : ChangeSpec := { name := "fnLevels", fn := fun _ => fun
  | [d] => { results := [.lit (.bool false)], args := [d] }
  | _ => none }
def FnLevelsWrongFalsely : Prop := fnLevelsRow.holds Try.pinned (OpenSpec.ofChange fnLevelsWrong)

/-- 'laws.FnNested': WHATEVER THE INPUT: true; the input reads as it did. -/
def fnNestedSpec : ChangeSpec := { name := "fnNested", fn := fun _ => fun
  | [d] => { results := [.lit (.bool true)], args := [d] }
  | _ => none }
def fnNestedRow : OpenClaim := { program := "ytdlehfnlibddcaa", sum := "d66bf547798ba137d61afe1f2dccf149af2aa859e2ccbb542e8919119749bad6", func := "loop.example/g03229/laws.FnNested", spec := "fnNested", unfollowed := true, recurses := true, apart := false }
def FnNestedSaid : Prop := fnNestedRow.holds Try.pinned (OpenSpec.ofChange fnNestedSpec)

/-- ITS FALSE NEIGHBOUR: 'it returns false'. Refute it at one input. -/
def fnNestedWrong : ChangeSpec := { name := "fnNested", fn := fun _ => fun
  | [d] => { results := [.lit (.bool false)], args := [d] }
  | _ => none }
def FnNestedWrongFalsely : Prop := fnNestedRow.holds Try.pinned (OpenSpec.ofChange fnNestedWrong)

/-- 'laws.FnExactScreenPicture': WHATEVER THE INPUT: true; the input reads as it did. -/
def fnExactScreenPictureSpec : ChangeSpec := { name := "fnExactScreenPicture", fn := fun _ => fun
  | [d1, d2] => { results := [.lit (.bool true)], args := [d1, d2] }
  | _ => none }
def fnExactScreenPictureRow : OpenClaim := { program := "ytdlehfnlibddcaa", sum := "d66bf547798ba137d61afe1f2dccf149af2aa859e2ccbb542e8919119749bad6", func := "loop.example/g03229/laws.FnExactScreenPicture", spec := "fnExactScreenPicture", unfollowed := true, recurses := true, apart := false }
def FnExactScreenPictureSaid : Prop := fnExactScreenPictureRow.holds Try.pinned (OpenSpec.ofChange fnExactScreenPictureSpec)

/-- ITS FALSE NEIGHBOUR: 'it returns false'. Refute it at one input. -/
def fnExactScreenPictureWrong : ChangeSpec := { name := "fnExactScreenPicture", fn := fun _ => fun
  | [d1, d2] => { results := [.lit (.bool false)], args := [d1, d2] }
  | _ => none }
def FnExactScreenPictureWrongFalsely : Prop := fnExactScreenPictureRow.holds Try.pinned (OpenSpec.ofChange fnExactScreenPictureWrong)

/-- 'laws.FnReversed': WHATEVER THE INPUT: true; the input reads as it did. -/
def fnReversedSpec : ChangeSpec := { name := "fnReversed", fn := fun _ => fun
  | [d] => { results := [.lit (.bool true)], args := [d] }
  | _ => none }
def fnReversedRow : OpenClaim := { program := "ytdlehfnlibddcaa", sum := "d66bf547798ba137d61afe1f2dccf149af2aa859e2ccbb542e8919119749bad6", func := "loop.example/g03229/laws.FnReversed", spec := "fnReversed", unfollowed := true, recurses := true, apart := false }
def FnReversedSaid : Prop := fnReversedRow.holds Try.pinned (OpenSpec.ofChange fnReversedSpec)

/-- ITS FALSE NEIGHBOUR: 'it returns false'. Refute it at one input. -/
def fnReversedWrong : ChangeSpec := { name := "fnReversed", fn := fun _ => fun
  | [d] => { results := [.lit (.bool false)], args := [d] }
  | _ => none }
def FnReversedWrongFalsely : Prop := fnReversedRow.holds Try.pinned (OpenSpec.ofChange fnReversedWrong)

/-- 'laws.FnExactScreenShifted': WHATEVER THE INPUT: true; the input reads as it did. -/
def fnExactScreenShiftedSpec : ChangeSpec := { name := "fnExactScreenShifted", fn := fun _ => fun
  | [d1, d2, d3, d4] => { results := [.lit (.bool true)], args := [d1, d2, d3, d4] }
  | _ => none }
def fnExactScreenShiftedRow : OpenClaim := { program := "ytdlehfnlibddcaa", sum := "d66bf547798ba137d61afe1f2dccf149af2aa859e2ccbb542e8919119749bad6", func := "loop.example/g03229/laws.FnExactScreenShifted", spec := "fnExactScreenShifted", unfollowed := true, recurses := true, apart := false }
def FnExactScreenShiftedSaid : Prop := fnExactScreenShiftedRow.holds Try.pinned (OpenSpec.ofChange fnExactScreenShiftedSpec)

/-- ITS FALSE NEIGHBOUR: 'it returns false'. Refute it at one input. -/
def fnExactScreenShiftedWrong : ChangeSpec := { name := "fnExactScreenShifted", fn := fun _ => fun
  | [d1, d2, d3, d4] => { results := [.lit (.bool false)], args := [d1, d2, d3, d4] }
  | _ => none }
def FnExactScreenShiftedWrongFalsely : Prop := fnExactScreenShiftedRow.holds Try.pinned (OpenSpec.ofChange fnExactScreenShiftedWrong)

/-- 'laws.FnStacked': WHATEVER THE INPUT: true; the input reads as it did. -/
def fnStackedSpec : ChangeSpec := { name := "fnStacked", fn := fun _ => fun
  | [d] => { results := [.lit (.bool true)], args := [d] }
  | _ => none }
def fnStackedRow : OpenClaim := { program := "ytdlehfnlibddcaa", sum := "d66bf547798ba137d61afe1f2dccf149af2aa859e2ccbb542e8919119749bad6", func := "loop.example/g03229/laws.FnStacked", spec := "fnStacked", unfollowed := true, recurses := true, apart := false }
def FnStackedSaid : Prop := fnStackedRow.holds Try.pinned (OpenSpec.ofChange fnStackedSpec)

/-- ITS FALSE NEIGHBOUR: 'it returns false'. Refute it at one input. -/
def fnStackedWrong : ChangeSpec := { name := "fnStacked", fn := fun _ => fun
  | [d] => { results := [.lit (.bool false)], args := [d] }
  | _ => none }
def FnStackedWrongFalsely : Prop := fnStackedRow.holds Try.pinned (OpenSpec.ofChange fnStackedWrong)

/- THE SECOND FORM. 'bulk': how many values and letters a reading holds, each counted each time it is reached (what is shared counts as often as it is met; a slice's spare places count too). A statement '..UptoSaid' is the law's where the arguments, and the package variables that the reading takes, are together of bulk at most 1048576: NARROWER than '..Said'. Prove '..Said' where nothing that the law and all that it calls make is longer than what came in: it says more and counts as full. Else prove '..UptoSaid'. A law counts once. -/
mutual
def uptoBulk {H : Type} : DataW H → Nat
  | .lit (.string bytes) => bytes.length + 1
  | .lit _ => 1
  | .nil => 1
  | .ptr d => uptoBulk d + 1
  | .slice elems spare => uptoBulkAll elems + uptoBulkAll spare + 1
  | .agg parts => uptoBulkAll parts + 1
  | .iface _ d => uptoBulk d + 1
  | .map entries => uptoBulkEntries entries + 1
  | .held _ => 1
def uptoBulkAll {H : Type} : List (DataW H) → Nat
  | [] => 0
  | d :: r => uptoBulk d + uptoBulkAll r
def uptoBulkEntries {H : Type} : List (Lit × DataW H) → Nat
  | [] => 0
  | x :: r => uptoBulkEntry x + uptoBulkEntries r
def uptoBulkEntry {H : Type} : Lit × DataW H → Nat
  | (.string bytes, d) => bytes.length + uptoBulk d + 1
  | (_, d) => uptoBulk d + 1
 end
def uptoSmall : (H : Type) → List (DataW H) → Bool := fun _ ds => decide (uptoBulkAll ds ≤ 1048576)
def OpenSpec.upto (s : _root_.Go.ChangeSpec) : _root_.Go.OpenSpec := { _root_.Go.OpenSpec.ofChange s with cond := some uptoSmall }

/-- 'laws.FnSpiral', WHERE WHAT IT READS IS OF BULK AT MOST 1048576: true; the input reads as it did. -/
def fnSpiralUptoRow : OpenClaim := { program := "ytdlehfnlibddcaa", sum := "d66bf547798ba137d61afe1f2dccf149af2aa859e2ccbb542e8919119749bad6", func := "loop.example/g03229/laws.FnSpiral", spec := "fnSpiral", unfollowed := true, recurses := true, apart := false, narrowed := true }
def FnSpiralUptoSaid : Prop := fnSpiralUptoRow.holds Try.pinned (OpenSpec.upto fnSpiralSpec)

/-- 'laws.FnBayer', WHERE WHAT IT READS IS OF BULK AT MOST 1048576: true; the input reads as it did. -/
def fnBayerUptoRow : OpenClaim := { program := "ytdlehfnlibddcaa", sum := "d66bf547798ba137d61afe1f2dccf149af2aa859e2ccbb542e8919119749bad6", func := "loop.example/g03229/laws.FnBayer", spec := "fnBayer", unfollowed := true, recurses := true, apart := false, narrowed := true }
def FnBayerUptoSaid : Prop := fnBayerUptoRow.holds Try.pinned (OpenSpec.upto fnBayerSpec)

/-- 'laws.FnExactSpiralMatrix', WHERE WHAT IT READS IS OF BULK AT MOST 1048576: true; the input reads as it did. -/
def fnExactSpiralMatrixUptoRow : OpenClaim := { program := "ytdlehfnlibddcaa", sum := "d66bf547798ba137d61afe1f2dccf149af2aa859e2ccbb542e8919119749bad6", func := "loop.example/g03229/laws.FnExactSpiralMatrix", spec := "fnExactSpiralMatrix", unfollowed := true, recurses := true, apart := false, narrowed := true }
def FnExactSpiralMatrixUptoSaid : Prop := fnExactSpiralMatrixUptoRow.holds Try.pinned (OpenSpec.upto fnExactSpiralMatrixSpec)

/-- 'laws.FnTiles', WHERE WHAT IT READS IS OF BULK AT MOST 1048576: true; the input reads as it did. -/
def fnTilesUptoRow : OpenClaim := { program := "ytdlehfnlibddcaa", sum := "d66bf547798ba137d61afe1f2dccf149af2aa859e2ccbb542e8919119749bad6", func := "loop.example/g03229/laws.FnTiles", spec := "fnTiles", unfollowed := true, recurses := true, apart := false, narrowed := true }
def FnTilesUptoSaid : Prop := fnTilesUptoRow.holds Try.pinned (OpenSpec.upto fnTilesSpec)

/-- 'laws.FnSpread', WHERE WHAT IT READS IS OF BULK AT MOST 1048576: true; the input reads as it did. -/
def fnSpreadUptoRow : OpenClaim := { program := "ytdlehfnlibddcaa", sum := "d66bf547798ba137d61afe1f2dccf149af2aa859e2ccbb542e8919119749bad6", func := "loop.example/g03229/laws.FnSpread", spec := "fnSpread", unfollowed := true, recurses := true, apart := false, narrowed := true }
def FnSpreadUptoSaid : Prop := fnSpreadUptoRow.holds Try.pinned (OpenSpec.upto fnSpreadSpec)

/-- 'laws.FnExactBayerMatrix', WHERE WHAT IT READS IS OF BULK AT MOST 1048576: true; the input reads as it did. -/
def fnExactBayerMatrixUptoRow : OpenClaim := { program := "ytdlehfnlibddcaa", sum := "d66bf547798ba137d61afe1f2dccf149af2aa859e2ccbb542e8919119749bad6", func := "loop.example/g03229/laws.FnExactBayerMatrix", spec := "fnExactBayerMatrix", unfollowed := true, recurses := true, apart := false, narrowed := true }
def FnExactBayerMatrixUptoSaid : Prop := fnExactBayerMatrixUptoRow.holds Try.pinned (OpenSpec.upto fnExactBayerMatrixSpec)

/-- 'laws.FnExactBlurPicture', WHERE WHAT IT READS IS OF BULK AT MOST 1048576: true; the input reads as it did. -/
def fnExactBlurPictureUptoRow : OpenClaim := { program := "ytdlehfnlibddcaa", sum := "d66bf547798ba137d61afe1f2dccf149af2aa859e2ccbb542e8919119749bad6", func := "loop.example/g03229/laws.FnExactBlurPicture", spec := "fnExactBlurPicture", unfollowed := true, recurses := true, apart := false, narrowed := true }
def FnExactBlurPictureUptoSaid : Prop := fnExactBlurPictureUptoRow.holds Try.pinned (OpenSpec.upto fnExactBlurPictureSpec)

/-- 'laws.FnExactTileSums', WHERE WHAT IT READS IS OF BULK AT MOST 1048576: true; the input reads as it did. -/
def fnExactTileSumsUptoRow : OpenClaim := { program := "ytdlehfnlibddcaa", sum := "d66bf547798ba137d61afe1f2dccf149af2aa859e2ccbb542e8919119749bad6", func := "loop.example/g03229/laws.FnExactTileSums", spec := "fnExactTileSums", unfollowed := true, recurses := true, apart := false, narrowed := true }
def FnExactTileSumsUptoSaid : Prop := fnExactTileSumsUptoRow.holds Try.pinned (OpenSpec.upto fnExactTileSumsSpec)

/-- 'laws.FnDoubled', WHERE WHAT IT READS IS OF BULK AT MOST 1048576: true; the input reads as it did. -/
def fnDoubledUptoRow : OpenClaim := { program := "ytdlehfnlibddcaa", sum := "d66bf547798ba137d61afe1f2dccf149af2aa859e2ccbb542e8919119749bad6", func := "loop.example/g03229/laws.FnDoubled", spec := "fnDoubled", unfollowed := true, recurses := true, apart := false, narrowed := true }
def FnDoubledUptoSaid : Prop := fnDoubledUptoRow.holds Try.pinned (OpenSpec.upto fnDoubledSpec)

/-- 'laws.FnExactDoubleMatrix', WHERE WHAT IT READS IS OF BULK AT MOST 1048576: true; the input reads as it did. -/
def fnExactDoubleMatrixUptoRow : OpenClaim := { program := "ytdlehfnlibddcaa", sum := "d66bf547798ba137d61afe1f2dccf149af2aa859e2ccbb542e8919119749bad6", func := "loop.example/g03229/laws.FnExactDoubleMatrix", spec := "fnExactDoubleMatrix", unfollowed := true, recurses := true, apart := false, narrowed := true }
def FnExactDoubleMatrixUptoSaid : Prop := fnExactDoubleMatrixUptoRow.holds Try.pinned (OpenSpec.upto fnExactDoubleMatrixSpec)

/-- 'laws.FnExactSpreadOf', WHERE WHAT IT READS IS OF BULK AT MOST 1048576: true; the input reads as it did. -/
def fnExactSpreadOfUptoRow : OpenClaim := { program := "ytdlehfnlibddcaa", sum := "d66bf547798ba137d61afe1f2dccf149af2aa859e2ccbb542e8919119749bad6", func := "loop.example/g03229/laws.FnExactSpreadOf", spec := "fnExactSpreadOf", unfollowed := true, recurses := true, apart := false, narrowed := true }
def FnExactSpreadOfUptoSaid : Prop := fnExactSpreadOfUptoRow.holds Try.pinned (OpenSpec.upto fnExactSpreadOfSpec)

/-- 'laws.FnExactScreenLevel', WHERE WHAT IT READS IS OF BULK AT MOST 1048576: true; the input reads as it did. -/
def fnExactScreenLevelUptoRow : OpenClaim := { program := "ytdlehfnlibddcaa", sum := "d66bf547798ba137d61afe1f2dccf149af2aa859e2ccbb542e8919119749bad6", func := "loop.example/g03229/laws.FnExactScreenLevel", spec := "fnExactScreenLevel", unfollowed := true, recurses := true, apart := false, narrowed := true }
def FnExactScreenLevelUptoSaid : Prop := fnExactScreenLevelUptoRow.holds Try.pinned (OpenSpec.upto fnExactScreenLevelSpec)

/-- 'laws.FnShifted', WHERE WHAT IT READS IS OF BULK AT MOST 1048576: true; the input reads as it did. -/
def fnShiftedUptoRow : OpenClaim := { program := "ytdlehfnlibddcaa", sum := "d66bf547798ba137d61afe1f2dccf149af2aa859e2ccbb542e8919119749bad6", func := "loop.example/g03229/laws.FnShifted", spec := "fnShifted", unfollowed := true, recurses := true, apart := false, narrowed := true }
def FnShiftedUptoSaid : Prop := fnShiftedUptoRow.holds Try.pinned (OpenSpec.upto fnShiftedSpec)

/-- 'laws.FnExactLevelsFor', WHERE WHAT IT READS IS OF BULK AT MOST 1048576: true; the input reads as it did. -/
def fnExactLevelsForUptoRow : OpenClaim := { program := "ytdlehfnlibddcaa", sum := "d66bf547798ba137d61afe1f2dccf149af2aa859e2ccbb542e8919119749bad6", func := "loop.example/g03229/laws.FnExactLevelsFor", spec := "fnExactLevelsFor", unfollowed := true, recurses := true, apart := false, narrowed := true }
def FnExactLevelsForUptoSaid : Prop := fnExactLevelsForUptoRow.holds Try.pinned (OpenSpec.upto fnExactLevelsForSpec)

/-- 'laws.FnLevels', WHERE WHAT IT READS IS OF BULK AT MOST 1048576: true; the input reads as it did. -/
def fnLevelsUptoRow : OpenClaim := { program := "ytdlehfnlibddcaa", sum := "d66bf547798ba137d61afe1f2dccf149af2aa859e2ccbb542e8919119749bad6", func := "loop.example/g03229/laws.FnLevels", spec := "fnLevels", unfollowed := true, recurses := true, apart := false, narrowed := true }
def FnLevelsUptoSaid : Prop := fnLevelsUptoRow.holds Try.pinned (OpenSpec.upto fnLevelsSpec)

/-- 'laws.FnNested', WHERE WHAT IT READS IS OF BULK AT MOST 1048576: true; the input reads as it did. -/
def fnNestedUptoRow : OpenClaim := { program := "ytdlehfnlibddcaa", sum := "d66bf547798ba137d61afe1f2dccf149af2aa859e2ccbb542e8919119749bad6", func := "loop.example/g03229/laws.FnNested", spec := "fnNested", unfollowed := true, recurses := true, apart := false, narrowed := true }
def FnNestedUptoSaid : Prop := fnNestedUptoRow.holds Try.pinned (OpenSpec.upto fnNestedSpec)

/-- 'laws.FnExactScreenPicture', WHERE WHAT IT READS IS OF BULK AT MOST 1048576: true; the input reads as it did. -/
def fnExactScreenPictureUptoRow : OpenClaim := { program := "ytdlehfnlibddcaa", sum := "d66bf547798ba137d61afe1f2dccf149af2aa859e2ccbb542e8919119749bad6", func := "loop.example/g03229/laws.FnExactScreenPicture", spec := "fnExactScreenPicture", unfollowed := true, recurses := true, apart := false, narrowed := true }
def FnExactScreenPictureUptoSaid : Prop := fnExactScreenPictureUptoRow.holds Try.pinned (OpenSpec.upto fnExactScreenPictureSpec)

/-- 'laws.FnReversed', WHERE WHAT IT READS IS OF BULK AT MOST 1048576: true; the input reads as it did. -/
def fnReversedUptoRow : OpenClaim := { program := "ytdlehfnlibddcaa", sum := "d66bf547798ba137d61afe1f2dccf149af2aa859e2ccbb542e8919119749bad6", func := "loop.example/g03229/laws.FnReversed", spec := "fnReversed", unfollowed := true, recurses := true, apart := false, narrowed := true }
def FnReversedUptoSaid : Prop := fnReversedUptoRow.holds Try.pinned (OpenSpec.upto fnReversedSpec)

/-- 'laws.FnExactScreenShifted', WHERE WHAT IT READS IS OF BULK AT MOST 1048576: true; the input reads as it did. -/
def fnExactScreenShiftedUptoRow : OpenClaim := { program := "ytdlehfnlibddcaa", sum := "d66bf547798ba137d61afe1f2dccf149af2aa859e2ccbb542e8919119749bad6", func := "loop.example/g03229/laws.FnExactScreenShifted", spec := "fnExactScreenShifted", unfollowed := true, recurses := true, apart := false, narrowed := true }
def FnExactScreenShiftedUptoSaid : Prop := fnExactScreenShiftedUptoRow.holds Try.pinned (OpenSpec.upto fnExactScreenShiftedSpec)

/-- 'laws.FnStacked', WHERE WHAT IT READS IS OF BULK AT MOST 1048576: true; the input reads as it did. -/
def fnStackedUptoRow : OpenClaim := { program := "ytdlehfnlibddcaa", sum := "d66bf547798ba137d61afe1f2dccf149af2aa859e2ccbb542e8919119749bad6", func := "loop.example/g03229/laws.FnStacked", spec := "fnStacked", unfollowed := true, recurses := true, apart := false, narrowed := true }
def FnStackedUptoSaid : Prop := fnStackedUptoRow.holds Try.pinned (OpenSpec.upto fnStackedSpec)

end Rows
end Go.Proofs.Ytdlehfnlibddcaa
