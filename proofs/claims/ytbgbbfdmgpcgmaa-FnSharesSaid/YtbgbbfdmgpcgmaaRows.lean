/-
  No cell of these rows narrows 'for every input' (looked for: loops, veiled, ifaces, maps, wideKeys, modest, calm, conditions, laid).
  DERIVED. THE GIVEN ROWS OF THIS SEAT. 32 by the template 'for every input the law returns true; each argument reads behind the call as it read before'; 0 by the template 'total and deterministic' (their statements: YtbgbbfdmgpcgmaaTotals.lean).
  GIVEN WITH THE SEED: the statements are not yours to turn. If you find one false, say at which input.
  Laid BY PROGRAM, IN A SANDBOX (cutbox-rows.mjs): the forced cells as the released guide's own fill.sh prints them over the translation f84776b78bba6ef4… (all of the seat's roots in one cut). By AI agents, Wed Nov 11 2026. No macro, syntax, notation, axiom, sorry.
-/
import Derived.Test.YtbgbbfdmgpcgmaaChecked
import GoSem.Claim
import GoSem.ClaimJoined
import GoSem.ClaimMapViews
import Derived.JoinedTies
import Derived.KernelRfl
namespace Go.Proofs.Ytbgbbfdmgpcgmaa
/- THE CELL 'sum', in the pinned program and in every row, IS THE sha256 OF THE DUMP (.gsa) THAT YtbgbbfdmgpcgmaaProg.lean LOADS. Nothing in Lean hashes anything: it is a label: what it is worth is what the hold of that sum in a sandbox is worth. -/
noncomputable def Try.pinned : Pinned := { name := "ytbgbbfdmgpcgmaa", sum := "f84776b78bba6ef4c90d898498f3a434fc861abc722804badabe872892e02ff3", checked := Try.checked }
namespace Rows
def none {H : Type} : Left H := { results := [], args := [] }

/-- 'laws.FnExactPlainKernel': WHATEVER THE INPUT: true; the input reads as it did. -/
def fnExactPlainKernelSpec : ChangeSpec := { name := "fnExactPlainKernel", fn := fun _ => fun
  | [] => { results := [.lit (.bool true)], args := [] }
  | _ => none }
def fnExactPlainKernelRow : OpenClaim := { program := "ytbgbbfdmgpcgmaa", sum := "f84776b78bba6ef4c90d898498f3a434fc861abc722804badabe872892e02ff3", func := "loop.example/g03229/laws.FnExactPlainKernel", spec := "fnExactPlainKernel", apart := false }
def FnExactPlainKernelSaid : Prop := fnExactPlainKernelRow.holds Try.pinned (OpenSpec.ofChange fnExactPlainKernelSpec)

/-- ITS FALSE NEIGHBOUR: 'it returns false'. Refute it at one input. -/
def fnExactPlainKernelWrong : ChangeSpec := { name := "fnExactPlainKernel", fn := fun _ => fun
  | [] => { results := [.lit (.bool false)], args := [] }
  | _ => none }
def FnExactPlainKernelWrongFalsely : Prop := fnExactPlainKernelRow.holds Try.pinned (OpenSpec.ofChange fnExactPlainKernelWrong)

/-- 'laws.FnExactSteinKernel': WHATEVER THE INPUT: true; the input reads as it did. -/
def fnExactSteinKernelSpec : ChangeSpec := { name := "fnExactSteinKernel", fn := fun _ => fun
  | [] => { results := [.lit (.bool true)], args := [] }
  | _ => none }
def fnExactSteinKernelRow : OpenClaim := { program := "ytbgbbfdmgpcgmaa", sum := "f84776b78bba6ef4c90d898498f3a434fc861abc722804badabe872892e02ff3", func := "loop.example/g03229/laws.FnExactSteinKernel", spec := "fnExactSteinKernel", apart := false }
def FnExactSteinKernelSaid : Prop := fnExactSteinKernelRow.holds Try.pinned (OpenSpec.ofChange fnExactSteinKernelSpec)

/-- ITS FALSE NEIGHBOUR: 'it returns false'. Refute it at one input. -/
def fnExactSteinKernelWrong : ChangeSpec := { name := "fnExactSteinKernel", fn := fun _ => fun
  | [] => { results := [.lit (.bool false)], args := [] }
  | _ => none }
def FnExactSteinKernelWrongFalsely : Prop := fnExactSteinKernelRow.holds Try.pinned (OpenSpec.ofChange fnExactSteinKernelWrong)

/-- 'laws.FnExactIsKernel': WHATEVER THE INPUT: true; the input reads as it did. -/
def fnExactIsKernelSpec : ChangeSpec := { name := "fnExactIsKernel", fn := fun _ => fun
  | [d] => { results := [.lit (.bool true)], args := [d] }
  | _ => none }
def fnExactIsKernelRow : OpenClaim := { program := "ytbgbbfdmgpcgmaa", sum := "f84776b78bba6ef4c90d898498f3a434fc861abc722804badabe872892e02ff3", func := "loop.example/g03229/laws.FnExactIsKernel", spec := "fnExactIsKernel", apart := false }
def FnExactIsKernelSaid : Prop := fnExactIsKernelRow.holds Try.pinned (OpenSpec.ofChange fnExactIsKernelSpec)

/-- ITS FALSE NEIGHBOUR: 'it returns false'. Refute it at one input. -/
def fnExactIsKernelWrong : ChangeSpec := { name := "fnExactIsKernel", fn := fun _ => fun
  | [d] => { results := [.lit (.bool false)], args := [d] }
  | _ => none }
def FnExactIsKernelWrongFalsely : Prop := fnExactIsKernelRow.holds Try.pinned (OpenSpec.ofChange fnExactIsKernelWrong)

/-- 'laws.FnExactSamePicture': WHATEVER THE INPUT: true; the input reads as it did. -/
def fnExactSamePictureSpec : ChangeSpec := { name := "fnExactSamePicture", fn := fun _ => fun
  | [d1, d2] => { results := [.lit (.bool true)], args := [d1, d2] }
  | _ => none }
def fnExactSamePictureRow : OpenClaim := { program := "ytbgbbfdmgpcgmaa", sum := "f84776b78bba6ef4c90d898498f3a434fc861abc722804badabe872892e02ff3", func := "loop.example/g03229/laws.FnExactSamePicture", spec := "fnExactSamePicture", apart := false }
def FnExactSamePictureSaid : Prop := fnExactSamePictureRow.holds Try.pinned (OpenSpec.ofChange fnExactSamePictureSpec)

/-- ITS FALSE NEIGHBOUR: 'it returns false'. Refute it at one input. -/
def fnExactSamePictureWrong : ChangeSpec := { name := "fnExactSamePicture", fn := fun _ => fun
  | [d1, d2] => { results := [.lit (.bool false)], args := [d1, d2] }
  | _ => none }
def FnExactSamePictureWrongFalsely : Prop := fnExactSamePictureRow.holds Try.pinned (OpenSpec.ofChange fnExactSamePictureWrong)

/-- 'laws.FnShares': WHATEVER THE INPUT: true; the input reads as it did. -/
def fnSharesSpec : ChangeSpec := { name := "fnShares", fn := fun _ => fun
  | [d] => { results := [.lit (.bool true)], args := [d] }
  | _ => none }
def fnSharesRow : OpenClaim := { program := "ytbgbbfdmgpcgmaa", sum := "f84776b78bba6ef4c90d898498f3a434fc861abc722804badabe872892e02ff3", func := "loop.example/g03229/laws.FnShares", spec := "fnShares", apart := false }
def FnSharesSaid : Prop := fnSharesRow.holds Try.pinned (OpenSpec.ofChange fnSharesSpec)

/-- ITS FALSE NEIGHBOUR: 'it returns false'. Refute it at one input. -/
def fnSharesWrong : ChangeSpec := { name := "fnShares", fn := fun _ => fun
  | [d] => { results := [.lit (.bool false)], args := [d] }
  | _ => none }
def FnSharesWrongFalsely : Prop := fnSharesRow.holds Try.pinned (OpenSpec.ofChange fnSharesWrong)

/-- 'laws.FnExactFlatPicture': WHATEVER THE INPUT: true; the input reads as it did. -/
def fnExactFlatPictureSpec : ChangeSpec := { name := "fnExactFlatPicture", fn := fun _ => fun
  | [d1, d2, d3] => { results := [.lit (.bool true)], args := [d1, d2, d3] }
  | _ => none }
def fnExactFlatPictureRow : OpenClaim := { program := "ytbgbbfdmgpcgmaa", sum := "f84776b78bba6ef4c90d898498f3a434fc861abc722804badabe872892e02ff3", func := "loop.example/g03229/laws.FnExactFlatPicture", spec := "fnExactFlatPicture", unfollowed := true, recurses := true, apart := false }
def FnExactFlatPictureSaid : Prop := fnExactFlatPictureRow.holds Try.pinned (OpenSpec.ofChange fnExactFlatPictureSpec)

/-- ITS FALSE NEIGHBOUR: 'it returns false'. Refute it at one input. -/
def fnExactFlatPictureWrong : ChangeSpec := { name := "fnExactFlatPicture", fn := fun _ => fun
  | [d1, d2, d3] => { results := [.lit (.bool false)], args := [d1, d2, d3] }
  | _ => none }
def FnExactFlatPictureWrongFalsely : Prop := fnExactFlatPictureRow.holds Try.pinned (OpenSpec.ofChange fnExactFlatPictureWrong)

/-- 'laws.FnExactIsPicture': WHATEVER THE INPUT: true; the input reads as it did. -/
def fnExactIsPictureSpec : ChangeSpec := { name := "fnExactIsPicture", fn := fun _ => fun
  | [d] => { results := [.lit (.bool true)], args := [d] }
  | _ => none }
def fnExactIsPictureRow : OpenClaim := { program := "ytbgbbfdmgpcgmaa", sum := "f84776b78bba6ef4c90d898498f3a434fc861abc722804badabe872892e02ff3", func := "loop.example/g03229/laws.FnExactIsPicture", spec := "fnExactIsPicture", unfollowed := true, recurses := true, apart := false }
def FnExactIsPictureSaid : Prop := fnExactIsPictureRow.holds Try.pinned (OpenSpec.ofChange fnExactIsPictureSpec)

/-- ITS FALSE NEIGHBOUR: 'it returns false'. Refute it at one input. -/
def fnExactIsPictureWrong : ChangeSpec := { name := "fnExactIsPicture", fn := fun _ => fun
  | [d] => { results := [.lit (.bool false)], args := [d] }
  | _ => none }
def FnExactIsPictureWrongFalsely : Prop := fnExactIsPictureRow.holds Try.pinned (OpenSpec.ofChange fnExactIsPictureWrong)

/-- 'laws.FnExactIsPlate': WHATEVER THE INPUT: true; the input reads as it did. -/
def fnExactIsPlateSpec : ChangeSpec := { name := "fnExactIsPlate", fn := fun _ => fun
  | [d] => { results := [.lit (.bool true)], args := [d] }
  | _ => none }
def fnExactIsPlateRow : OpenClaim := { program := "ytbgbbfdmgpcgmaa", sum := "f84776b78bba6ef4c90d898498f3a434fc861abc722804badabe872892e02ff3", func := "loop.example/g03229/laws.FnExactIsPlate", spec := "fnExactIsPlate", unfollowed := true, recurses := true, apart := false }
def FnExactIsPlateSaid : Prop := fnExactIsPlateRow.holds Try.pinned (OpenSpec.ofChange fnExactIsPlateSpec)

/-- ITS FALSE NEIGHBOUR: 'it returns false'. Refute it at one input. -/
def fnExactIsPlateWrong : ChangeSpec := { name := "fnExactIsPlate", fn := fun _ => fun
  | [d] => { results := [.lit (.bool false)], args := [d] }
  | _ => none }
def FnExactIsPlateWrongFalsely : Prop := fnExactIsPlateRow.holds Try.pinned (OpenSpec.ofChange fnExactIsPlateWrong)

/-- 'laws.FnExactRampPicture': WHATEVER THE INPUT: true; the input reads as it did. -/
def fnExactRampPictureSpec : ChangeSpec := { name := "fnExactRampPicture", fn := fun _ => fun
  | [d1, d2] => { results := [.lit (.bool true)], args := [d1, d2] }
  | _ => none }
def fnExactRampPictureRow : OpenClaim := { program := "ytbgbbfdmgpcgmaa", sum := "f84776b78bba6ef4c90d898498f3a434fc861abc722804badabe872892e02ff3", func := "loop.example/g03229/laws.FnExactRampPicture", spec := "fnExactRampPicture", unfollowed := true, recurses := true, apart := false }
def FnExactRampPictureSaid : Prop := fnExactRampPictureRow.holds Try.pinned (OpenSpec.ofChange fnExactRampPictureSpec)

/-- ITS FALSE NEIGHBOUR: 'it returns false'. Refute it at one input. -/
def fnExactRampPictureWrong : ChangeSpec := { name := "fnExactRampPicture", fn := fun _ => fun
  | [d1, d2] => { results := [.lit (.bool false)], args := [d1, d2] }
  | _ => none }
def FnExactRampPictureWrongFalsely : Prop := fnExactRampPictureRow.holds Try.pinned (OpenSpec.ofChange fnExactRampPictureWrong)

/-- 'laws.FnExactWeightOf': WHATEVER THE INPUT: true; the input reads as it did. -/
def fnExactWeightOfSpec : ChangeSpec := { name := "fnExactWeightOf", fn := fun _ => fun
  | [d] => { results := [.lit (.bool true)], args := [d] }
  | _ => none }
def fnExactWeightOfRow : OpenClaim := { program := "ytbgbbfdmgpcgmaa", sum := "f84776b78bba6ef4c90d898498f3a434fc861abc722804badabe872892e02ff3", func := "loop.example/g03229/laws.FnExactWeightOf", spec := "fnExactWeightOf", apart := false }
def FnExactWeightOfSaid : Prop := fnExactWeightOfRow.holds Try.pinned (OpenSpec.ofChange fnExactWeightOfSpec)

/-- ITS FALSE NEIGHBOUR: 'it returns false'. Refute it at one input. -/
def fnExactWeightOfWrong : ChangeSpec := { name := "fnExactWeightOf", fn := fun _ => fun
  | [d] => { results := [.lit (.bool false)], args := [d] }
  | _ => none }
def FnExactWeightOfWrongFalsely : Prop := fnExactWeightOfRow.holds Try.pinned (OpenSpec.ofChange fnExactWeightOfWrong)

/-- 'laws.FnConserved': WHATEVER THE INPUT: true; the input reads as it did. -/
def fnConservedSpec : ChangeSpec := { name := "fnConserved", fn := fun _ => fun
  | [d] => { results := [.lit (.bool true)], args := [d] }
  | _ => none }
def fnConservedRow : OpenClaim := { program := "ytbgbbfdmgpcgmaa", sum := "f84776b78bba6ef4c90d898498f3a434fc861abc722804badabe872892e02ff3", func := "loop.example/g03229/laws.FnConserved", spec := "fnConserved", unfollowed := true, recurses := true, apart := false }
def FnConservedSaid : Prop := fnConservedRow.holds Try.pinned (OpenSpec.ofChange fnConservedSpec)

/-- ITS FALSE NEIGHBOUR: 'it returns false'. Refute it at one input. -/
def fnConservedWrong : ChangeSpec := { name := "fnConserved", fn := fun _ => fun
  | [d] => { results := [.lit (.bool false)], args := [d] }
  | _ => none }
def FnConservedWrongFalsely : Prop := fnConservedRow.holds Try.pinned (OpenSpec.ofChange fnConservedWrong)

/-- 'laws.FnExactInkAt': WHATEVER THE INPUT: true; the input reads as it did. -/
def fnExactInkAtSpec : ChangeSpec := { name := "fnExactInkAt", fn := fun _ => fun
  | [d1, d2, d3] => { results := [.lit (.bool true)], args := [d1, d2, d3] }
  | _ => none }
def fnExactInkAtRow : OpenClaim := { program := "ytbgbbfdmgpcgmaa", sum := "f84776b78bba6ef4c90d898498f3a434fc861abc722804badabe872892e02ff3", func := "loop.example/g03229/laws.FnExactInkAt", spec := "fnExactInkAt", unfollowed := true, recurses := true, apart := false }
def FnExactInkAtSaid : Prop := fnExactInkAtRow.holds Try.pinned (OpenSpec.ofChange fnExactInkAtSpec)

/-- ITS FALSE NEIGHBOUR: 'it returns false'. Refute it at one input. -/
def fnExactInkAtWrong : ChangeSpec := { name := "fnExactInkAt", fn := fun _ => fun
  | [d1, d2, d3] => { results := [.lit (.bool false)], args := [d1, d2, d3] }
  | _ => none }
def FnExactInkAtWrongFalsely : Prop := fnExactInkAtRow.holds Try.pinned (OpenSpec.ofChange fnExactInkAtWrong)

/-- 'laws.FnMean': WHATEVER THE INPUT: true; the input reads as it did. -/
def fnMeanSpec : ChangeSpec := { name := "fnMean", fn := fun _ => fun
  | [d] => { results := [.lit (.bool true)], args := [d] }
  | _ => none }
def fnMeanRow : OpenClaim := { program := "ytbgbbfdmgpcgmaa", sum := "f84776b78bba6ef4c90d898498f3a434fc861abc722804badabe872892e02ff3", func := "loop.example/g03229/laws.FnMean", spec := "fnMean", unfollowed := true, recurses := true, apart := false }
def FnMeanSaid : Prop := fnMeanRow.holds Try.pinned (OpenSpec.ofChange fnMeanSpec)

/-- ITS FALSE NEIGHBOUR: 'it returns false'. Refute it at one input. -/
def fnMeanWrong : ChangeSpec := { name := "fnMean", fn := fun _ => fun
  | [d] => { results := [.lit (.bool false)], args := [d] }
  | _ => none }
def FnMeanWrongFalsely : Prop := fnMeanRow.holds Try.pinned (OpenSpec.ofChange fnMeanWrong)

/-- 'laws.FnExactSumInk': WHATEVER THE INPUT: true; the input reads as it did. -/
def fnExactSumInkSpec : ChangeSpec := { name := "fnExactSumInk", fn := fun _ => fun
  | [d] => { results := [.lit (.bool true)], args := [d] }
  | _ => none }
def fnExactSumInkRow : OpenClaim := { program := "ytbgbbfdmgpcgmaa", sum := "f84776b78bba6ef4c90d898498f3a434fc861abc722804badabe872892e02ff3", func := "loop.example/g03229/laws.FnExactSumInk", spec := "fnExactSumInk", unfollowed := true, recurses := true, apart := false }
def FnExactSumInkSaid : Prop := fnExactSumInkRow.holds Try.pinned (OpenSpec.ofChange fnExactSumInkSpec)

/-- ITS FALSE NEIGHBOUR: 'it returns false'. Refute it at one input. -/
def fnExactSumInkWrong : ChangeSpec := { name := "fnExactSumInk", fn := fun _ => fun
  | [d] => { results := [.lit (.bool false)], args := [d] }
  | _ => none }
def FnExactSumInkWrongFalsely : Prop := fnExactSumInkRow.holds Try.pinned (OpenSpec.ofChange fnExactSumInkWrong)

/-- 'laws.FnExactCountInk': WHATEVER THE INPUT: true; the input reads as it did. -/
def fnExactCountInkSpec : ChangeSpec := { name := "fnExactCountInk", fn := fun _ => fun
  | [d1, d2] => { results := [.lit (.bool true)], args := [d1, d2] }
  | _ => none }
def fnExactCountInkRow : OpenClaim := { program := "ytbgbbfdmgpcgmaa", sum := "f84776b78bba6ef4c90d898498f3a434fc861abc722804badabe872892e02ff3", func := "loop.example/g03229/laws.FnExactCountInk", spec := "fnExactCountInk", unfollowed := true, recurses := true, apart := false }
def FnExactCountInkSaid : Prop := fnExactCountInkRow.holds Try.pinned (OpenSpec.ofChange fnExactCountInkSpec)

/-- ITS FALSE NEIGHBOUR: 'it returns false'. Refute it at one input. -/
def fnExactCountInkWrong : ChangeSpec := { name := "fnExactCountInk", fn := fun _ => fun
  | [d1, d2] => { results := [.lit (.bool false)], args := [d1, d2] }
  | _ => none }
def FnExactCountInkWrongFalsely : Prop := fnExactCountInkRow.holds Try.pinned (OpenSpec.ofChange fnExactCountInkWrong)

/-- 'laws.FnExactCoversPicture': WHATEVER THE INPUT: true; the input reads as it did. -/
def fnExactCoversPictureSpec : ChangeSpec := { name := "fnExactCoversPicture", fn := fun _ => fun
  | [d1, d2] => { results := [.lit (.bool true)], args := [d1, d2] }
  | _ => none }
def fnExactCoversPictureRow : OpenClaim := { program := "ytbgbbfdmgpcgmaa", sum := "f84776b78bba6ef4c90d898498f3a434fc861abc722804badabe872892e02ff3", func := "loop.example/g03229/laws.FnExactCoversPicture", spec := "fnExactCoversPicture", unfollowed := true, recurses := true, apart := false }
def FnExactCoversPictureSaid : Prop := fnExactCoversPictureRow.holds Try.pinned (OpenSpec.ofChange fnExactCoversPictureSpec)

/-- ITS FALSE NEIGHBOUR: 'it returns false'. Refute it at one input. -/
def fnExactCoversPictureWrong : ChangeSpec := { name := "fnExactCoversPicture", fn := fun _ => fun
  | [d1, d2] => { results := [.lit (.bool false)], args := [d1, d2] }
  | _ => none }
def FnExactCoversPictureWrongFalsely : Prop := fnExactCoversPictureRow.holds Try.pinned (OpenSpec.ofChange fnExactCoversPictureWrong)

/-- 'laws.FnRow': WHATEVER THE INPUT: true; the input reads as it did. -/
def fnRowSpec : ChangeSpec := { name := "fnRow", fn := fun _ => fun
  | [d] => { results := [.lit (.bool true)], args := [d] }
  | _ => none }
def fnRowRow : OpenClaim := { program := "ytbgbbfdmgpcgmaa", sum := "f84776b78bba6ef4c90d898498f3a434fc861abc722804badabe872892e02ff3", func := "loop.example/g03229/laws.FnRow", spec := "fnRow", unfollowed := true, recurses := true, apart := false }
def FnRowSaid : Prop := fnRowRow.holds Try.pinned (OpenSpec.ofChange fnRowSpec)

/-- ITS FALSE NEIGHBOUR: 'it returns false'. Refute it at one input. -/
def fnRowWrong : ChangeSpec := { name := "fnRow", fn := fun _ => fun
  | [d] => { results := [.lit (.bool false)], args := [d] }
  | _ => none }
def FnRowWrongFalsely : Prop := fnRowRow.holds Try.pinned (OpenSpec.ofChange fnRowWrong)

/-- 'laws.FnExactMirrorKernel': WHATEVER THE INPUT: true; the input reads as it did. -/
def fnExactMirrorKernelSpec : ChangeSpec := { name := "fnExactMirrorKernel", fn := fun _ => fun
  | [d] => { results := [.lit (.bool true)], args := [d] }
  | _ => none }
def fnExactMirrorKernelRow : OpenClaim := { program := "ytbgbbfdmgpcgmaa", sum := "f84776b78bba6ef4c90d898498f3a434fc861abc722804badabe872892e02ff3", func := "loop.example/g03229/laws.FnExactMirrorKernel", spec := "fnExactMirrorKernel", apart := false }
def FnExactMirrorKernelSaid : Prop := fnExactMirrorKernelRow.holds Try.pinned (OpenSpec.ofChange fnExactMirrorKernelSpec)

/-- ITS FALSE NEIGHBOUR: 'it returns false'. Refute it at one input. -/
def fnExactMirrorKernelWrong : ChangeSpec := { name := "fnExactMirrorKernel", fn := fun _ => fun
  | [d] => { results := [.lit (.bool false)], args := [d] }
  | _ => none }
def FnExactMirrorKernelWrongFalsely : Prop := fnExactMirrorKernelRow.holds Try.pinned (OpenSpec.ofChange fnExactMirrorKernelWrong)

/-- 'laws.FnTiled': WHATEVER THE INPUT: true; the input reads as it did. -/
def fnTiledSpec : ChangeSpec := { name := "fnTiled", fn := fun _ => fun
  | [d] => { results := [.lit (.bool true)], args := [d] }
  | _ => none }
def fnTiledRow : OpenClaim := { program := "ytbgbbfdmgpcgmaa", sum := "f84776b78bba6ef4c90d898498f3a434fc861abc722804badabe872892e02ff3", func := "loop.example/g03229/laws.FnTiled", spec := "fnTiled", unfollowed := true, recurses := true, apart := false }
def FnTiledSaid : Prop := fnTiledRow.holds Try.pinned (OpenSpec.ofChange fnTiledSpec)

/-- ITS FALSE NEIGHBOUR: 'it returns false'. Refute it at one input. -/
def fnTiledWrong : ChangeSpec := { name := "fnTiled", fn := fun _ => fun
  | [d] => { results := [.lit (.bool false)], args := [d] }
  | _ => none }
def FnTiledWrongFalsely : Prop := fnTiledRow.holds Try.pinned (OpenSpec.ofChange fnTiledWrong)

/-- 'laws.FnExactMeanOf': WHATEVER THE INPUT: true; the input reads as it did. -/
def fnExactMeanOfSpec : ChangeSpec := { name := "fnExactMeanOf", fn := fun _ => fun
  | [d] => { results := [.lit (.bool true)], args := [d] }
  | _ => none }
def fnExactMeanOfRow : OpenClaim := { program := "ytbgbbfdmgpcgmaa", sum := "f84776b78bba6ef4c90d898498f3a434fc861abc722804badabe872892e02ff3", func := "loop.example/g03229/laws.FnExactMeanOf", spec := "fnExactMeanOf", unfollowed := true, recurses := true, apart := false }
def FnExactMeanOfSaid : Prop := fnExactMeanOfRow.holds Try.pinned (OpenSpec.ofChange fnExactMeanOfSpec)

/-- ITS FALSE NEIGHBOUR: 'it returns false'. Refute it at one input. -/
def fnExactMeanOfWrong : ChangeSpec := { name := "fnExactMeanOf", fn := fun _ => fun
  | [d] => { results := [.lit (.bool false)], args := [d] }
  | _ => none }
def FnExactMeanOfWrongFalsely : Prop := fnExactMeanOfRow.holds Try.pinned (OpenSpec.ofChange fnExactMeanOfWrong)

/-- 'laws.FnTurned': WHATEVER THE INPUT: true; the input reads as it did. -/
def fnTurnedSpec : ChangeSpec := { name := "fnTurned", fn := fun _ => fun
  | [d] => { results := [.lit (.bool true)], args := [d] }
  | _ => none }
def fnTurnedRow : OpenClaim := { program := "ytbgbbfdmgpcgmaa", sum := "f84776b78bba6ef4c90d898498f3a434fc861abc722804badabe872892e02ff3", func := "loop.example/g03229/laws.FnTurned", spec := "fnTurned", unfollowed := true, recurses := true, apart := false }
def FnTurnedSaid : Prop := fnTurnedRow.holds Try.pinned (OpenSpec.ofChange fnTurnedSpec)

/-- ITS FALSE NEIGHBOUR: 'it returns false'. Refute it at one input. -/
def fnTurnedWrong : ChangeSpec := { name := "fnTurned", fn := fun _ => fun
  | [d] => { results := [.lit (.bool false)], args := [d] }
  | _ => none }
def FnTurnedWrongFalsely : Prop := fnTurnedRow.holds Try.pinned (OpenSpec.ofChange fnTurnedWrong)

/-- 'laws.FnExactCropPicture': WHATEVER THE INPUT: true; the input reads as it did. -/
def fnExactCropPictureSpec : ChangeSpec := { name := "fnExactCropPicture", fn := fun _ => fun
  | [d1, d2, d3, d4, d5] => { results := [.lit (.bool true)], args := [d1, d2, d3, d4, d5] }
  | _ => none }
def fnExactCropPictureRow : OpenClaim := { program := "ytbgbbfdmgpcgmaa", sum := "f84776b78bba6ef4c90d898498f3a434fc861abc722804badabe872892e02ff3", func := "loop.example/g03229/laws.FnExactCropPicture", spec := "fnExactCropPicture", unfollowed := true, recurses := true, apart := false }
def FnExactCropPictureSaid : Prop := fnExactCropPictureRow.holds Try.pinned (OpenSpec.ofChange fnExactCropPictureSpec)

/-- ITS FALSE NEIGHBOUR: 'it returns false'. Refute it at one input. -/
def fnExactCropPictureWrong : ChangeSpec := { name := "fnExactCropPicture", fn := fun _ => fun
  | [d1, d2, d3, d4, d5] => { results := [.lit (.bool false)], args := [d1, d2, d3, d4, d5] }
  | _ => none }
def FnExactCropPictureWrongFalsely : Prop := fnExactCropPictureRow.holds Try.pinned (OpenSpec.ofChange fnExactCropPictureWrong)

/-- 'laws.FnExactMirrorPicture': WHATEVER THE INPUT: true; the input reads as it did. -/
def fnExactMirrorPictureSpec : ChangeSpec := { name := "fnExactMirrorPicture", fn := fun _ => fun
  | [d] => { results := [.lit (.bool true)], args := [d] }
  | _ => none }
def fnExactMirrorPictureRow : OpenClaim := { program := "ytbgbbfdmgpcgmaa", sum := "f84776b78bba6ef4c90d898498f3a434fc861abc722804badabe872892e02ff3", func := "loop.example/g03229/laws.FnExactMirrorPicture", spec := "fnExactMirrorPicture", unfollowed := true, recurses := true, apart := false }
def FnExactMirrorPictureSaid : Prop := fnExactMirrorPictureRow.holds Try.pinned (OpenSpec.ofChange fnExactMirrorPictureSpec)

/-- ITS FALSE NEIGHBOUR: 'it returns false'. Refute it at one input. -/
def fnExactMirrorPictureWrong : ChangeSpec := { name := "fnExactMirrorPicture", fn := fun _ => fun
  | [d] => { results := [.lit (.bool false)], args := [d] }
  | _ => none }
def FnExactMirrorPictureWrongFalsely : Prop := fnExactMirrorPictureRow.holds Try.pinned (OpenSpec.ofChange fnExactMirrorPictureWrong)

/-- 'laws.FnExactTilePicture': WHATEVER THE INPUT: true; the input reads as it did. -/
def fnExactTilePictureSpec : ChangeSpec := { name := "fnExactTilePicture", fn := fun _ => fun
  | [d1, d2, d3] => { results := [.lit (.bool true)], args := [d1, d2, d3] }
  | _ => none }
def fnExactTilePictureRow : OpenClaim := { program := "ytbgbbfdmgpcgmaa", sum := "f84776b78bba6ef4c90d898498f3a434fc861abc722804badabe872892e02ff3", func := "loop.example/g03229/laws.FnExactTilePicture", spec := "fnExactTilePicture", unfollowed := true, recurses := true, apart := false }
def FnExactTilePictureSaid : Prop := fnExactTilePictureRow.holds Try.pinned (OpenSpec.ofChange fnExactTilePictureSpec)

/-- ITS FALSE NEIGHBOUR: 'it returns false'. Refute it at one input. -/
def fnExactTilePictureWrong : ChangeSpec := { name := "fnExactTilePicture", fn := fun _ => fun
  | [d1, d2, d3] => { results := [.lit (.bool false)], args := [d1, d2, d3] }
  | _ => none }
def FnExactTilePictureWrongFalsely : Prop := fnExactTilePictureRow.holds Try.pinned (OpenSpec.ofChange fnExactTilePictureWrong)

/-- 'laws.FnExactTurnPicture': WHATEVER THE INPUT: true; the input reads as it did. -/
def fnExactTurnPictureSpec : ChangeSpec := { name := "fnExactTurnPicture", fn := fun _ => fun
  | [d] => { results := [.lit (.bool true)], args := [d] }
  | _ => none }
def fnExactTurnPictureRow : OpenClaim := { program := "ytbgbbfdmgpcgmaa", sum := "f84776b78bba6ef4c90d898498f3a434fc861abc722804badabe872892e02ff3", func := "loop.example/g03229/laws.FnExactTurnPicture", spec := "fnExactTurnPicture", unfollowed := true, recurses := true, apart := false }
def FnExactTurnPictureSaid : Prop := fnExactTurnPictureRow.holds Try.pinned (OpenSpec.ofChange fnExactTurnPictureSpec)

/-- ITS FALSE NEIGHBOUR: 'it returns false'. Refute it at one input. -/
def fnExactTurnPictureWrong : ChangeSpec := { name := "fnExactTurnPicture", fn := fun _ => fun
  | [d] => { results := [.lit (.bool false)], args := [d] }
  | _ => none }
def FnExactTurnPictureWrongFalsely : Prop := fnExactTurnPictureRow.holds Try.pinned (OpenSpec.ofChange fnExactTurnPictureWrong)

/-- 'laws.FnCovered': WHATEVER THE INPUT: true; the input reads as it did. -/
def fnCoveredSpec : ChangeSpec := { name := "fnCovered", fn := fun _ => fun
  | [d] => { results := [.lit (.bool true)], args := [d] }
  | _ => none }
def fnCoveredRow : OpenClaim := { program := "ytbgbbfdmgpcgmaa", sum := "f84776b78bba6ef4c90d898498f3a434fc861abc722804badabe872892e02ff3", func := "loop.example/g03229/laws.FnCovered", spec := "fnCovered", unfollowed := true, recurses := true, apart := false }
def FnCoveredSaid : Prop := fnCoveredRow.holds Try.pinned (OpenSpec.ofChange fnCoveredSpec)

/-- ITS FALSE NEIGHBOUR: 'it returns false'. Refute it at one input. -/
def fnCoveredWrong : ChangeSpec := { name := "fnCovered", fn := fun _ => fun
  | [d] => { results := [.lit (.bool false)], args := [d] }
  | _ => none }
def FnCoveredWrongFalsely : Prop := fnCoveredRow.holds Try.pinned (OpenSpec.ofChange fnCoveredWrong)

/-- 'laws.FnExactAddPictures': WHATEVER THE INPUT: true; the input reads as it did. -/
def fnExactAddPicturesSpec : ChangeSpec := { name := "fnExactAddPictures", fn := fun _ => fun
  | [d1, d2] => { results := [.lit (.bool true)], args := [d1, d2] }
  | _ => none }
def fnExactAddPicturesRow : OpenClaim := { program := "ytbgbbfdmgpcgmaa", sum := "f84776b78bba6ef4c90d898498f3a434fc861abc722804badabe872892e02ff3", func := "loop.example/g03229/laws.FnExactAddPictures", spec := "fnExactAddPictures", unfollowed := true, recurses := true, apart := false }
def FnExactAddPicturesSaid : Prop := fnExactAddPicturesRow.holds Try.pinned (OpenSpec.ofChange fnExactAddPicturesSpec)

/-- ITS FALSE NEIGHBOUR: 'it returns false'. Refute it at one input. -/
def fnExactAddPicturesWrong : ChangeSpec := { name := "fnExactAddPictures", fn := fun _ => fun
  | [d1, d2] => { results := [.lit (.bool false)], args := [d1, d2] }
  | _ => none }
def FnExactAddPicturesWrongFalsely : Prop := fnExactAddPicturesRow.holds Try.pinned (OpenSpec.ofChange fnExactAddPicturesWrong)

/-- 'laws.FnExactNegativePicture': WHATEVER THE INPUT: true; the input reads as it did. -/
def fnExactNegativePictureSpec : ChangeSpec := { name := "fnExactNegativePicture", fn := fun _ => fun
  | [d] => { results := [.lit (.bool true)], args := [d] }
  | _ => none }
def fnExactNegativePictureRow : OpenClaim := { program := "ytbgbbfdmgpcgmaa", sum := "f84776b78bba6ef4c90d898498f3a434fc861abc722804badabe872892e02ff3", func := "loop.example/g03229/laws.FnExactNegativePicture", spec := "fnExactNegativePicture", unfollowed := true, recurses := true, apart := false }
def FnExactNegativePictureSaid : Prop := fnExactNegativePictureRow.holds Try.pinned (OpenSpec.ofChange fnExactNegativePictureSpec)

/-- ITS FALSE NEIGHBOUR: 'it returns false'. Refute it at one input. -/
def fnExactNegativePictureWrong : ChangeSpec := { name := "fnExactNegativePicture", fn := fun _ => fun
  | [d] => { results := [.lit (.bool false)], args := [d] }
  | _ => none }
def FnExactNegativePictureWrongFalsely : Prop := fnExactNegativePictureRow.holds Try.pinned (OpenSpec.ofChange fnExactNegativePictureWrong)

/-- 'laws.FnNegative': WHATEVER THE INPUT: true; the input reads as it did. -/
def fnNegativeSpec : ChangeSpec := { name := "fnNegative", fn := fun _ => fun
  | [d] => { results := [.lit (.bool true)], args := [d] }
  | _ => none }
def fnNegativeRow : OpenClaim := { program := "ytbgbbfdmgpcgmaa", sum := "f84776b78bba6ef4c90d898498f3a434fc861abc722804badabe872892e02ff3", func := "loop.example/g03229/laws.FnNegative", spec := "fnNegative", unfollowed := true, recurses := true, apart := false }
def FnNegativeSaid : Prop := fnNegativeRow.holds Try.pinned (OpenSpec.ofChange fnNegativeSpec)

/-- ITS FALSE NEIGHBOUR: 'it returns false'. Refute it at one input. -/
def fnNegativeWrong : ChangeSpec := { name := "fnNegative", fn := fun _ => fun
  | [d] => { results := [.lit (.bool false)], args := [d] }
  | _ => none }
def FnNegativeWrongFalsely : Prop := fnNegativeRow.holds Try.pinned (OpenSpec.ofChange fnNegativeWrong)

/-- 'laws.FnExactSharesOf': WHATEVER THE INPUT: true; the input reads as it did. -/
def fnExactSharesOfSpec : ChangeSpec := { name := "fnExactSharesOf", fn := fun _ => fun
  | [d1, d2] => { results := [.lit (.bool true)], args := [d1, d2] }
  | _ => none }
def fnExactSharesOfRow : OpenClaim := { program := "ytbgbbfdmgpcgmaa", sum := "f84776b78bba6ef4c90d898498f3a434fc861abc722804badabe872892e02ff3", func := "loop.example/g03229/laws.FnExactSharesOf", spec := "fnExactSharesOf", apart := false }
def FnExactSharesOfSaid : Prop := fnExactSharesOfRow.holds Try.pinned (OpenSpec.ofChange fnExactSharesOfSpec)

/-- ITS FALSE NEIGHBOUR: 'it returns false'. Refute it at one input. -/
def fnExactSharesOfWrong : ChangeSpec := { name := "fnExactSharesOf", fn := fun _ => fun
  | [d1, d2] => { results := [.lit (.bool false)], args := [d1, d2] }
  | _ => none }
def FnExactSharesOfWrongFalsely : Prop := fnExactSharesOfRow.holds Try.pinned (OpenSpec.ofChange fnExactSharesOfWrong)

/-- 'laws.FnEmpty': WHATEVER THE INPUT: true; the input reads as it did. -/
def fnEmptySpec : ChangeSpec := { name := "fnEmpty", fn := fun _ => fun
  | [d] => { results := [.lit (.bool true)], args := [d] }
  | _ => none }
def fnEmptyRow : OpenClaim := { program := "ytbgbbfdmgpcgmaa", sum := "f84776b78bba6ef4c90d898498f3a434fc861abc722804badabe872892e02ff3", func := "loop.example/g03229/laws.FnEmpty", spec := "fnEmpty", unfollowed := true, recurses := true, apart := false }
def FnEmptySaid : Prop := fnEmptyRow.holds Try.pinned (OpenSpec.ofChange fnEmptySpec)

/-- ITS FALSE NEIGHBOUR: 'it returns false'. Refute it at one input. -/
def fnEmptyWrong : ChangeSpec := { name := "fnEmpty", fn := fun _ => fun
  | [d] => { results := [.lit (.bool false)], args := [d] }
  | _ => none }
def FnEmptyWrongFalsely : Prop := fnEmptyRow.holds Try.pinned (OpenSpec.ofChange fnEmptyWrong)

/-- 'laws.FnExactRowDots': WHATEVER THE INPUT: true; the input reads as it did. -/
def fnExactRowDotsSpec : ChangeSpec := { name := "fnExactRowDots", fn := fun _ => fun
  | [d] => { results := [.lit (.bool true)], args := [d] }
  | _ => none }
def fnExactRowDotsRow : OpenClaim := { program := "ytbgbbfdmgpcgmaa", sum := "f84776b78bba6ef4c90d898498f3a434fc861abc722804badabe872892e02ff3", func := "loop.example/g03229/laws.FnExactRowDots", spec := "fnExactRowDots", unfollowed := true, recurses := true, apart := false }
def FnExactRowDotsSaid : Prop := fnExactRowDotsRow.holds Try.pinned (OpenSpec.ofChange fnExactRowDotsSpec)

/-- ITS FALSE NEIGHBOUR: 'it returns false'. Refute it at one input. -/
def fnExactRowDotsWrong : ChangeSpec := { name := "fnExactRowDots", fn := fun _ => fun
  | [d] => { results := [.lit (.bool false)], args := [d] }
  | _ => none }
def FnExactRowDotsWrongFalsely : Prop := fnExactRowDotsRow.holds Try.pinned (OpenSpec.ofChange fnExactRowDotsWrong)

/- THE SECOND FORM. 'bulk': how many values and letters a reading holds, each counted each time it is reached (what is shared counts as often as it is met; a slice's spare places count too). A statement '..UptoSaid' is the law's where the arguments, and the package variables that the reading takes, are together of bulk at most 1048576: NARROWER than '..Said'. Prove '..Said' where nothing that the law and all that it calls make is longer than what came in: it says more and counts as full. Else prove '..UptoSaid'. A law counts once. -/
mutual
def uptoBulk {H : Type} : DataW H → Nat
  | .lit (.string bytes) => bytes.length + 1
  | .lit _ => 1
  | .nil => 1
  | .ptr d => uptoBulk d + 1
  | .slice elems spare => uptoBulkAll elems + uptoBulkAll spare + 1
  | .agg parts => uptoBulkAll parts + 1
  | .iface _ d => uptoBulk d + 1
  | .map entries => uptoBulkEntries entries + 1
  | .held _ => 1
def uptoBulkAll {H : Type} : List (DataW H) → Nat
  | [] => 0
  | d :: r => uptoBulk d + uptoBulkAll r
def uptoBulkEntries {H : Type} : List (Lit × DataW H) → Nat
  | [] => 0
  | x :: r => uptoBulkEntry x + uptoBulkEntries r
def uptoBulkEntry {H : Type} : Lit × DataW H → Nat
  | (.string bytes, d) => bytes.length + uptoBulk d + 1
  | (_, d) => uptoBulk d + 1
 end
def uptoSmall : (H : Type) → List (DataW H) → Bool := fun _ ds => decide (uptoBulkAll ds ≤ 1048576)
def OpenSpec.upto (s : _root_.Go.ChangeSpec) : _root_.Go.OpenSpec := { _root_.Go.OpenSpec.ofChange s with cond := some uptoSmall }

/-- 'laws.FnExactPlainKernel', WHERE WHAT IT READS IS OF BULK AT MOST 1048576: true; the input reads as it did. -/
def fnExactPlainKernelUptoRow : OpenClaim := { program := "ytbgbbfdmgpcgmaa", sum := "f84776b78bba6ef4c90d898498f3a434fc861abc722804badabe872892e02ff3", func := "loop.example/g03229/laws.FnExactPlainKernel", spec := "fnExactPlainKernel", apart := false, narrowed := true }
def FnExactPlainKernelUptoSaid : Prop := fnExactPlainKernelUptoRow.holds Try.pinned (OpenSpec.upto fnExactPlainKernelSpec)

/-- 'laws.FnExactSteinKernel', WHERE WHAT IT READS IS OF BULK AT MOST 1048576: true; the input reads as it did. -/
def fnExactSteinKernelUptoRow : OpenClaim := { program := "ytbgbbfdmgpcgmaa", sum := "f84776b78bba6ef4c90d898498f3a434fc861abc722804badabe872892e02ff3", func := "loop.example/g03229/laws.FnExactSteinKernel", spec := "fnExactSteinKernel", apart := false, narrowed := true }
def FnExactSteinKernelUptoSaid : Prop := fnExactSteinKernelUptoRow.holds Try.pinned (OpenSpec.upto fnExactSteinKernelSpec)

/-- 'laws.FnExactIsKernel', WHERE WHAT IT READS IS OF BULK AT MOST 1048576: true; the input reads as it did. -/
def fnExactIsKernelUptoRow : OpenClaim := { program := "ytbgbbfdmgpcgmaa", sum := "f84776b78bba6ef4c90d898498f3a434fc861abc722804badabe872892e02ff3", func := "loop.example/g03229/laws.FnExactIsKernel", spec := "fnExactIsKernel", apart := false, narrowed := true }
def FnExactIsKernelUptoSaid : Prop := fnExactIsKernelUptoRow.holds Try.pinned (OpenSpec.upto fnExactIsKernelSpec)

/-- 'laws.FnExactSamePicture', WHERE WHAT IT READS IS OF BULK AT MOST 1048576: true; the input reads as it did. -/
def fnExactSamePictureUptoRow : OpenClaim := { program := "ytbgbbfdmgpcgmaa", sum := "f84776b78bba6ef4c90d898498f3a434fc861abc722804badabe872892e02ff3", func := "loop.example/g03229/laws.FnExactSamePicture", spec := "fnExactSamePicture", apart := false, narrowed := true }
def FnExactSamePictureUptoSaid : Prop := fnExactSamePictureUptoRow.holds Try.pinned (OpenSpec.upto fnExactSamePictureSpec)

/-- 'laws.FnShares', WHERE WHAT IT READS IS OF BULK AT MOST 1048576: true; the input reads as it did. -/
def fnSharesUptoRow : OpenClaim := { program := "ytbgbbfdmgpcgmaa", sum := "f84776b78bba6ef4c90d898498f3a434fc861abc722804badabe872892e02ff3", func := "loop.example/g03229/laws.FnShares", spec := "fnShares", apart := false, narrowed := true }
def FnSharesUptoSaid : Prop := fnSharesUptoRow.holds Try.pinned (OpenSpec.upto fnSharesSpec)

/-- 'laws.FnExactFlatPicture', WHERE WHAT IT READS IS OF BULK AT MOST 1048576: true; the input reads as it did. -/
def fnExactFlatPictureUptoRow : OpenClaim := { program := "ytbgbbfdmgpcgmaa", sum := "f84776b78bba6ef4c90d898498f3a434fc861abc722804badabe872892e02ff3", func := "loop.example/g03229/laws.FnExactFlatPicture", spec := "fnExactFlatPicture", unfollowed := true, recurses := true, apart := false, narrowed := true }
def FnExactFlatPictureUptoSaid : Prop := fnExactFlatPictureUptoRow.holds Try.pinned (OpenSpec.upto fnExactFlatPictureSpec)

/-- 'laws.FnExactIsPicture', WHERE WHAT IT READS IS OF BULK AT MOST 1048576: true; the input reads as it did. -/
def fnExactIsPictureUptoRow : OpenClaim := { program := "ytbgbbfdmgpcgmaa", sum := "f84776b78bba6ef4c90d898498f3a434fc861abc722804badabe872892e02ff3", func := "loop.example/g03229/laws.FnExactIsPicture", spec := "fnExactIsPicture", unfollowed := true, recurses := true, apart := false, narrowed := true }
def FnExactIsPictureUptoSaid : Prop := fnExactIsPictureUptoRow.holds Try.pinned (OpenSpec.upto fnExactIsPictureSpec)

/-- 'laws.FnExactIsPlate', WHERE WHAT IT READS IS OF BULK AT MOST 1048576: true; the input reads as it did. -/
def fnExactIsPlateUptoRow : OpenClaim := { program := "ytbgbbfdmgpcgmaa", sum := "f84776b78bba6ef4c90d898498f3a434fc861abc722804badabe872892e02ff3", func := "loop.example/g03229/laws.FnExactIsPlate", spec := "fnExactIsPlate", unfollowed := true, recurses := true, apart := false, narrowed := true }
def FnExactIsPlateUptoSaid : Prop := fnExactIsPlateUptoRow.holds Try.pinned (OpenSpec.upto fnExactIsPlateSpec)

/-- 'laws.FnExactRampPicture', WHERE WHAT IT READS IS OF BULK AT MOST 1048576: true; the input reads as it did. -/
def fnExactRampPictureUptoRow : OpenClaim := { program := "ytbgbbfdmgpcgmaa", sum := "f84776b78bba6ef4c90d898498f3a434fc861abc722804badabe872892e02ff3", func := "loop.example/g03229/laws.FnExactRampPicture", spec := "fnExactRampPicture", unfollowed := true, recurses := true, apart := false, narrowed := true }
def FnExactRampPictureUptoSaid : Prop := fnExactRampPictureUptoRow.holds Try.pinned (OpenSpec.upto fnExactRampPictureSpec)

/-- 'laws.FnExactWeightOf', WHERE WHAT IT READS IS OF BULK AT MOST 1048576: true; the input reads as it did. -/
def fnExactWeightOfUptoRow : OpenClaim := { program := "ytbgbbfdmgpcgmaa", sum := "f84776b78bba6ef4c90d898498f3a434fc861abc722804badabe872892e02ff3", func := "loop.example/g03229/laws.FnExactWeightOf", spec := "fnExactWeightOf", apart := false, narrowed := true }
def FnExactWeightOfUptoSaid : Prop := fnExactWeightOfUptoRow.holds Try.pinned (OpenSpec.upto fnExactWeightOfSpec)

/-- 'laws.FnConserved', WHERE WHAT IT READS IS OF BULK AT MOST 1048576: true; the input reads as it did. -/
def fnConservedUptoRow : OpenClaim := { program := "ytbgbbfdmgpcgmaa", sum := "f84776b78bba6ef4c90d898498f3a434fc861abc722804badabe872892e02ff3", func := "loop.example/g03229/laws.FnConserved", spec := "fnConserved", unfollowed := true, recurses := true, apart := false, narrowed := true }
def FnConservedUptoSaid : Prop := fnConservedUptoRow.holds Try.pinned (OpenSpec.upto fnConservedSpec)

/-- 'laws.FnExactInkAt', WHERE WHAT IT READS IS OF BULK AT MOST 1048576: true; the input reads as it did. -/
def fnExactInkAtUptoRow : OpenClaim := { program := "ytbgbbfdmgpcgmaa", sum := "f84776b78bba6ef4c90d898498f3a434fc861abc722804badabe872892e02ff3", func := "loop.example/g03229/laws.FnExactInkAt", spec := "fnExactInkAt", unfollowed := true, recurses := true, apart := false, narrowed := true }
def FnExactInkAtUptoSaid : Prop := fnExactInkAtUptoRow.holds Try.pinned (OpenSpec.upto fnExactInkAtSpec)

/-- 'laws.FnMean', WHERE WHAT IT READS IS OF BULK AT MOST 1048576: true; the input reads as it did. -/
def fnMeanUptoRow : OpenClaim := { program := "ytbgbbfdmgpcgmaa", sum := "f84776b78bba6ef4c90d898498f3a434fc861abc722804badabe872892e02ff3", func := "loop.example/g03229/laws.FnMean", spec := "fnMean", unfollowed := true, recurses := true, apart := false, narrowed := true }
def FnMeanUptoSaid : Prop := fnMeanUptoRow.holds Try.pinned (OpenSpec.upto fnMeanSpec)

/-- 'laws.FnExactSumInk', WHERE WHAT IT READS IS OF BULK AT MOST 1048576: true; the input reads as it did. -/
def fnExactSumInkUptoRow : OpenClaim := { program := "ytbgbbfdmgpcgmaa", sum := "f84776b78bba6ef4c90d898498f3a434fc861abc722804badabe872892e02ff3", func := "loop.example/g03229/laws.FnExactSumInk", spec := "fnExactSumInk", unfollowed := true, recurses := true, apart := false, narrowed := true }
def FnExactSumInkUptoSaid : Prop := fnExactSumInkUptoRow.holds Try.pinned (OpenSpec.upto fnExactSumInkSpec)

/-- 'laws.FnExactCountInk', WHERE WHAT IT READS IS OF BULK AT MOST 1048576: true; the input reads as it did. -/
def fnExactCountInkUptoRow : OpenClaim := { program := "ytbgbbfdmgpcgmaa", sum := "f84776b78bba6ef4c90d898498f3a434fc861abc722804badabe872892e02ff3", func := "loop.example/g03229/laws.FnExactCountInk", spec := "fnExactCountInk", unfollowed := true, recurses := true, apart := false, narrowed := true }
def FnExactCountInkUptoSaid : Prop := fnExactCountInkUptoRow.holds Try.pinned (OpenSpec.upto fnExactCountInkSpec)

/-- 'laws.FnExactCoversPicture', WHERE WHAT IT READS IS OF BULK AT MOST 1048576: true; the input reads as it did. -/
def fnExactCoversPictureUptoRow : OpenClaim := { program := "ytbgbbfdmgpcgmaa", sum := "f84776b78bba6ef4c90d898498f3a434fc861abc722804badabe872892e02ff3", func := "loop.example/g03229/laws.FnExactCoversPicture", spec := "fnExactCoversPicture", unfollowed := true, recurses := true, apart := false, narrowed := true }
def FnExactCoversPictureUptoSaid : Prop := fnExactCoversPictureUptoRow.holds Try.pinned (OpenSpec.upto fnExactCoversPictureSpec)

/-- 'laws.FnRow', WHERE WHAT IT READS IS OF BULK AT MOST 1048576: true; the input reads as it did. -/
def fnRowUptoRow : OpenClaim := { program := "ytbgbbfdmgpcgmaa", sum := "f84776b78bba6ef4c90d898498f3a434fc861abc722804badabe872892e02ff3", func := "loop.example/g03229/laws.FnRow", spec := "fnRow", unfollowed := true, recurses := true, apart := false, narrowed := true }
def FnRowUptoSaid : Prop := fnRowUptoRow.holds Try.pinned (OpenSpec.upto fnRowSpec)

/-- 'laws.FnExactMirrorKernel', WHERE WHAT IT READS IS OF BULK AT MOST 1048576: true; the input reads as it did. -/
def fnExactMirrorKernelUptoRow : OpenClaim := { program := "ytbgbbfdmgpcgmaa", sum := "f84776b78bba6ef4c90d898498f3a434fc861abc722804badabe872892e02ff3", func := "loop.example/g03229/laws.FnExactMirrorKernel", spec := "fnExactMirrorKernel", apart := false, narrowed := true }
def FnExactMirrorKernelUptoSaid : Prop := fnExactMirrorKernelUptoRow.holds Try.pinned (OpenSpec.upto fnExactMirrorKernelSpec)

/-- 'laws.FnTiled', WHERE WHAT IT READS IS OF BULK AT MOST 1048576: true; the input reads as it did. -/
def fnTiledUptoRow : OpenClaim := { program := "ytbgbbfdmgpcgmaa", sum := "f84776b78bba6ef4c90d898498f3a434fc861abc722804badabe872892e02ff3", func := "loop.example/g03229/laws.FnTiled", spec := "fnTiled", unfollowed := true, recurses := true, apart := false, narrowed := true }
def FnTiledUptoSaid : Prop := fnTiledUptoRow.holds Try.pinned (OpenSpec.upto fnTiledSpec)

/-- 'laws.FnExactMeanOf', WHERE WHAT IT READS IS OF BULK AT MOST 1048576: true; the input reads as it did. -/
def fnExactMeanOfUptoRow : OpenClaim := { program := "ytbgbbfdmgpcgmaa", sum := "f84776b78bba6ef4c90d898498f3a434fc861abc722804badabe872892e02ff3", func := "loop.example/g03229/laws.FnExactMeanOf", spec := "fnExactMeanOf", unfollowed := true, recurses := true, apart := false, narrowed := true }
def FnExactMeanOfUptoSaid : Prop := fnExactMeanOfUptoRow.holds Try.pinned (OpenSpec.upto fnExactMeanOfSpec)

/-- 'laws.FnTurned', WHERE WHAT IT READS IS OF BULK AT MOST 1048576: true; the input reads as it did. -/
def fnTurnedUptoRow : OpenClaim := { program := "ytbgbbfdmgpcgmaa", sum := "f84776b78bba6ef4c90d898498f3a434fc861abc722804badabe872892e02ff3", func := "loop.example/g03229/laws.FnTurned", spec := "fnTurned", unfollowed := true, recurses := true, apart := false, narrowed := true }
def FnTurnedUptoSaid : Prop := fnTurnedUptoRow.holds Try.pinned (OpenSpec.upto fnTurnedSpec)

/-- 'laws.FnExactCropPicture', WHERE WHAT IT READS IS OF BULK AT MOST 1048576: true; the input reads as it did. -/
def fnExactCropPictureUptoRow : OpenClaim := { program := "ytbgbbfdmgpcgmaa", sum := "f84776b78bba6ef4c90d898498f3a434fc861abc722804badabe872892e02ff3", func := "loop.example/g03229/laws.FnExactCropPicture", spec := "fnExactCropPicture", unfollowed := true, recurses := true, apart := false, narrowed := true }
def FnExactCropPictureUptoSaid : Prop := fnExactCropPictureUptoRow.holds Try.pinned (OpenSpec.upto fnExactCropPictureSpec)

/-- 'laws.FnExactMirrorPicture', WHERE WHAT IT READS IS OF BULK AT MOST 1048576: true; the input reads as it did. -/
def fnExactMirrorPictureUptoRow : OpenClaim := { program := "ytbgbbfdmgpcgmaa", sum := "f84776b78bba6ef4c90d898498f3a434fc861abc722804badabe872892e02ff3", func := "loop.example/g03229/laws.FnExactMirrorPicture", spec := "fnExactMirrorPicture", unfollowed := true, recurses := true, apart := false, narrowed := true }
def FnExactMirrorPictureUptoSaid : Prop := fnExactMirrorPictureUptoRow.holds Try.pinned (OpenSpec.upto fnExactMirrorPictureSpec)

/-- 'laws.FnExactTilePicture', WHERE WHAT IT READS IS OF BULK AT MOST 1048576: true; the input reads as it did. -/
def fnExactTilePictureUptoRow : OpenClaim := { program := "ytbgbbfdmgpcgmaa", sum := "f84776b78bba6ef4c90d898498f3a434fc861abc722804badabe872892e02ff3", func := "loop.example/g03229/laws.FnExactTilePicture", spec := "fnExactTilePicture", unfollowed := true, recurses := true, apart := false, narrowed := true }
def FnExactTilePictureUptoSaid : Prop := fnExactTilePictureUptoRow.holds Try.pinned (OpenSpec.upto fnExactTilePictureSpec)

/-- 'laws.FnExactTurnPicture', WHERE WHAT IT READS IS OF BULK AT MOST 1048576: true; the input reads as it did. -/
def fnExactTurnPictureUptoRow : OpenClaim := { program := "ytbgbbfdmgpcgmaa", sum := "f84776b78bba6ef4c90d898498f3a434fc861abc722804badabe872892e02ff3", func := "loop.example/g03229/laws.FnExactTurnPicture", spec := "fnExactTurnPicture", unfollowed := true, recurses := true, apart := false, narrowed := true }
def FnExactTurnPictureUptoSaid : Prop := fnExactTurnPictureUptoRow.holds Try.pinned (OpenSpec.upto fnExactTurnPictureSpec)

/-- 'laws.FnCovered', WHERE WHAT IT READS IS OF BULK AT MOST 1048576: true; the input reads as it did. -/
def fnCoveredUptoRow : OpenClaim := { program := "ytbgbbfdmgpcgmaa", sum := "f84776b78bba6ef4c90d898498f3a434fc861abc722804badabe872892e02ff3", func := "loop.example/g03229/laws.FnCovered", spec := "fnCovered", unfollowed := true, recurses := true, apart := false, narrowed := true }
def FnCoveredUptoSaid : Prop := fnCoveredUptoRow.holds Try.pinned (OpenSpec.upto fnCoveredSpec)

/-- 'laws.FnExactAddPictures', WHERE WHAT IT READS IS OF BULK AT MOST 1048576: true; the input reads as it did. -/
def fnExactAddPicturesUptoRow : OpenClaim := { program := "ytbgbbfdmgpcgmaa", sum := "f84776b78bba6ef4c90d898498f3a434fc861abc722804badabe872892e02ff3", func := "loop.example/g03229/laws.FnExactAddPictures", spec := "fnExactAddPictures", unfollowed := true, recurses := true, apart := false, narrowed := true }
def FnExactAddPicturesUptoSaid : Prop := fnExactAddPicturesUptoRow.holds Try.pinned (OpenSpec.upto fnExactAddPicturesSpec)

/-- 'laws.FnExactNegativePicture', WHERE WHAT IT READS IS OF BULK AT MOST 1048576: true; the input reads as it did. -/
def fnExactNegativePictureUptoRow : OpenClaim := { program := "ytbgbbfdmgpcgmaa", sum := "f84776b78bba6ef4c90d898498f3a434fc861abc722804badabe872892e02ff3", func := "loop.example/g03229/laws.FnExactNegativePicture", spec := "fnExactNegativePicture", unfollowed := true, recurses := true, apart := false, narrowed := true }
def FnExactNegativePictureUptoSaid : Prop := fnExactNegativePictureUptoRow.holds Try.pinned (OpenSpec.upto fnExactNegativePictureSpec)

/-- 'laws.FnNegative', WHERE WHAT IT READS IS OF BULK AT MOST 1048576: true; the input reads as it did. -/
def fnNegativeUptoRow : OpenClaim := { program := "ytbgbbfdmgpcgmaa", sum := "f84776b78bba6ef4c90d898498f3a434fc861abc722804badabe872892e02ff3", func := "loop.example/g03229/laws.FnNegative", spec := "fnNegative", unfollowed := true, recurses := true, apart := false, narrowed := true }
def FnNegativeUptoSaid : Prop := fnNegativeUptoRow.holds Try.pinned (OpenSpec.upto fnNegativeSpec)

/-- 'laws.FnExactSharesOf', WHERE WHAT IT READS IS OF BULK AT MOST 1048576: true; the input reads as it did. -/
def fnExactSharesOfUptoRow : OpenClaim := { program := "ytbgbbfdmgpcgmaa", sum := "f84776b78bba6ef4c90d898498f3a434fc861abc722804badabe872892e02ff3", func := "loop.example/g03229/laws.FnExactSharesOf", spec := "fnExactSharesOf", apart := false, narrowed := true }
def FnExactSharesOfUptoSaid : Prop := fnExactSharesOfUptoRow.holds Try.pinned (OpenSpec.upto fnExactSharesOfSpec)

/-- 'laws.FnEmpty', WHERE WHAT IT READS IS OF BULK AT MOST 1048576: true; the input reads as it did. -/
def fnEmptyUptoRow : OpenClaim := { program := "ytbgbbfdmgpcgmaa", sum := "f84776b78bba6ef4c90d898498f3a434fc861abc722804badabe872892e02ff3", func := "loop.example/g03229/laws.FnEmpty", spec := "fnEmpty", unfollowed := true, recurses := true, apart := false, narrowed := true }
def FnEmptyUptoSaid : Prop := fnEmptyUptoRow.holds Try.pinned (OpenSpec.upto fnEmptySpec)

/-- 'laws.FnExactRowDots', WHERE WHAT IT READS IS OF BULK AT MOST 1048576: true; the input reads as it did. -/
def fnExactRowDotsUptoRow : OpenClaim := { program := "ytbgbbfdmgpcgmaa", sum := "f84776b78bba6ef4c90d898498f3a434fc861abc722804badabe872892e02ff3", func := "loop.example/g03229/laws.FnExactRowDots", spec := "fnExactRowDots", unfollowed := true, recurses := true, apart := false, narrowed := true }
def FnExactRowDotsUptoSaid : Prop := fnExactRowDotsUptoRow.holds Try.pinned (OpenSpec.upto fnExactRowDotsSpec)

end Rows
end Go.Proofs.Ytbgbbfdmgpcgmaa
