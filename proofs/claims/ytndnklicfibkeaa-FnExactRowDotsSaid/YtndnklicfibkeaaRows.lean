/-
  No cell of these rows narrows 'for every input' (looked for: loops, veiled, ifaces, maps, wideKeys, modest, calm, conditions, laid).
  DERIVED. THE GIVEN ROWS OF THIS SEAT. 5 by the template 'for every input the law returns true; each argument reads behind the call as it read before'; 0 by the template 'total and deterministic' (their statements: YtndnklicfibkeaaTotals.lean).
  GIVEN WITH THE SEED: the statements are not yours to turn. If you find one false, say at which input.
  Laid BY PROGRAM, IN A SANDBOX (cutbox-rows.mjs): the forced cells as the released guide's own fill.sh prints them over the translation f9f107fd1919757f… (all of the seat's roots in one cut). By AI agents, Wed Nov 11 2026. No macro, syntax, notation, axiom, sorry.
-/
import Derived.Test.YtndnklicfibkeaaChecked
import GoSem.Claim
import GoSem.ClaimJoined
import GoSem.ClaimMapViews
import Derived.JoinedTies
import Derived.KernelRfl
namespace Go.Proofs.Ytndnklicfibkeaa
/- THE CELL 'sum', in the pinned program and in every row, IS THE sha256 OF THE DUMP (.gsa) THAT YtndnklicfibkeaaProg.lean LOADS. Nothing in Lean hashes anything: it is a label: what it is worth is what the hold of that sum in a sandbox is worth. -/
noncomputable def Try.pinned : Pinned := { name := "ytndnklicfibkeaa", sum := "f9f107fd1919757fc0b322126a88ffc0ab4869b66251d7a659d2deffacfd7a14", checked := Try.checked }
namespace Rows
def none {H : Type} : Left H := { results := [], args := [] }

/-- 'laws.FnConserved': WHATEVER THE INPUT: true; the input reads as it did. -/
def fnConservedSpec : ChangeSpec := { name := "fnConserved", fn := fun _ => fun
  | [d] => { results := [.lit (.bool true)], args := [d] }
  | _ => none }
def fnConservedRow : OpenClaim := { program := "ytndnklicfibkeaa", sum := "f9f107fd1919757fc0b322126a88ffc0ab4869b66251d7a659d2deffacfd7a14", func := "loop.example/g03229/laws.FnConserved", spec := "fnConserved", unfollowed := true, recurses := true, apart := false }
def FnConservedSaid : Prop := fnConservedRow.holds Try.pinned (OpenSpec.ofChange fnConservedSpec)

/-- ITS FALSE NEIGHBOUR: 'it returns false'. Refute it at one input. -/
def fnConservedWrong : ChangeSpec := { name := "fnConserved", fn := fun _ => fun
  | [d] => { results := [.lit (.bool false)], args := [d] }
  | _ => none }
def FnConservedWrongFalsely : Prop := fnConservedRow.holds Try.pinned (OpenSpec.ofChange fnConservedWrong)

/-- 'laws.FnRow': WHATEVER THE INPUT: true; the input reads as it did. -/
def fnRowSpec : ChangeSpec := { name := "fnRow", fn := fun _ => fun
  | [d] => { results := [.lit (.bool true)], args := [d] }
  | _ => none }
def fnRowRow : OpenClaim := { program := "ytndnklicfibkeaa", sum := "f9f107fd1919757fc0b322126a88ffc0ab4869b66251d7a659d2deffacfd7a14", func := "loop.example/g03229/laws.FnRow", spec := "fnRow", unfollowed := true, recurses := true, apart := false }
def FnRowSaid : Prop := fnRowRow.holds Try.pinned (OpenSpec.ofChange fnRowSpec)

/-- ITS FALSE NEIGHBOUR: 'it returns false'. Refute it at one input. -/
def fnRowWrong : ChangeSpec := { name := "fnRow", fn := fun _ => fun
  | [d] => { results := [.lit (.bool false)], args := [d] }
  | _ => none }
def FnRowWrongFalsely : Prop := fnRowRow.holds Try.pinned (OpenSpec.ofChange fnRowWrong)

/-- 'laws.FnExactAddPictures': WHATEVER THE INPUT: true; the input reads as it did. -/
def fnExactAddPicturesSpec : ChangeSpec := { name := "fnExactAddPictures", fn := fun _ => fun
  | [d1, d2] => { results := [.lit (.bool true)], args := [d1, d2] }
  | _ => none }
def fnExactAddPicturesRow : OpenClaim := { program := "ytndnklicfibkeaa", sum := "f9f107fd1919757fc0b322126a88ffc0ab4869b66251d7a659d2deffacfd7a14", func := "loop.example/g03229/laws.FnExactAddPictures", spec := "fnExactAddPictures", unfollowed := true, recurses := true, apart := false }
def FnExactAddPicturesSaid : Prop := fnExactAddPicturesRow.holds Try.pinned (OpenSpec.ofChange fnExactAddPicturesSpec)

/-- ITS FALSE NEIGHBOUR: 'it returns false'. Refute it at one input. -/
def fnExactAddPicturesWrong : ChangeSpec := { name := "fnExactAddPictures", fn := fun _ => fun
  | [d1, d2] => { results := [.lit (.bool false)], args := [d1, d2] }
  | _ => none }
def FnExactAddPicturesWrongFalsely : Prop := fnExactAddPicturesRow.holds Try.pinned (OpenSpec.ofChange fnExactAddPicturesWrong)

/-- 'laws.FnEmpty': WHATEVER THE INPUT: true; the input reads as it did. -/
def fnEmptySpec : ChangeSpec := { name := "fnEmpty", fn := fun _ => fun
  | [d] => { results := [.lit (.bool true)], args := [d] }
  | _ => none }
def fnEmptyRow : OpenClaim := { program := "ytndnklicfibkeaa", sum := "f9f107fd1919757fc0b322126a88ffc0ab4869b66251d7a659d2deffacfd7a14", func := "loop.example/g03229/laws.FnEmpty", spec := "fnEmpty", unfollowed := true, recurses := true, apart := false }
def FnEmptySaid : Prop := fnEmptyRow.holds Try.pinned (OpenSpec.ofChange fnEmptySpec)

/-- ITS FALSE NEIGHBOUR: 'it returns false'. Refute it at one input. -/
def fnEmptyWrong : ChangeSpec := { name := "fnEmpty", fn := fun _ => fun
  | [d] => { results := [.lit (.bool false)], args := [d] }
  | _ => none }
def FnEmptyWrongFalsely : Prop := fnEmptyRow.holds Try.pinned (OpenSpec.ofChange fnEmptyWrong)

/-- 'laws.FnExactRowDots': WHATEVER THE INPUT: true; the input reads as it did. -/
def fnExactRowDotsSpec : ChangeSpec := { name := "fnExactRowDots", fn := fun _ => fun
  | [d] => { results := [.lit (.bool true)], args := [d] }
  | _ => none }
def fnExactRowDotsRow : OpenClaim := { program := "ytndnklicfibkeaa", sum := "f9f107fd1919757fc0b322126a88ffc0ab4869b66251d7a659d2deffacfd7a14", func := "loop.example/g03229/laws.FnExactRowDots", spec := "fnExactRowDots", unfollowed := true, recurses := true, apart := false }
def FnExactRowDotsSaid : Prop := fnExactRowDotsRow.holds Try.pinned (OpenSpec.ofChange fnExactRowDotsSpec)

/-- ITS FALSE NEIGHBOUR: 'it returns false'. Refute it at one input. -/
def fnExactRowDotsWrong : ChangeSpec := { name := "fnExactRowDots", fn := fun _ => fun
  | [d] => { results := [.lit (.bool false)], args := [d] }
  | _ => none }
def FnExactRowDotsWrongFalsely : Prop := fnExactRowDotsRow.holds Try.pinned (OpenSpec.ofChange fnExactRowDotsWrong)

/- THE SECOND FORM. 'bulk': how many values and letters a reading holds, each counted each time it is reached (what is shared counts as often as it is met; a slice's spare places count too). A statement '..UptoSaid' is the law's where the arguments, and the package variables that the reading takes, are together of bulk at most 1048576: NARROWER than '..Said'. Prove '..Said' where nothing that the law and all that it calls make is longer than what came in: it says more and counts as full. Else prove '..UptoSaid'. A law counts once. -/
mutual
def uptoBulk {H : Type} : DataW H → Nat
  | .lit (.string bytes) => bytes.length + 1
  | .lit _ => 1
  | .nil => 1
  | .ptr d => uptoBulk d + 1
  | .slice elems spare => uptoBulkAll elems + uptoBulkAll spare + 1
  | .agg parts => uptoBulkAll parts + 1
  | .iface _ d => uptoBulk d + 1
  | .map entries => uptoBulkEntries entries + 1
  | .held _ => 1
def uptoBulkAll {H : Type} : List (DataW H) → Nat
  | [] => 0
  | d :: r => uptoBulk d + uptoBulkAll r
def uptoBulkEntries {H : Type} : List (Lit × DataW H) → Nat
  | [] => 0
  | x :: r => uptoBulkEntry x + uptoBulkEntries r
def uptoBulkEntry {H : Type} : Lit × DataW H → Nat
  | (.string bytes, d) => bytes.length + uptoBulk d + 1
  | (_, d) => uptoBulk d + 1
 end
def uptoSmall : (H : Type) → List (DataW H) → Bool := fun _ ds => decide (uptoBulkAll ds ≤ 1048576)
def OpenSpec.upto (s : _root_.Go.ChangeSpec) : _root_.Go.OpenSpec := { _root_.Go.OpenSpec.ofChange s with cond := some uptoSmall }

/-- 'laws.FnConserved', WHERE WHAT IT READS IS OF BULK AT MOST 1048576: true; the input reads as it did. -/
def fnConservedUptoRow : OpenClaim := { program := "ytndnklicfibkeaa", sum := "f9f107fd1919757fc0b322126a88ffc0ab4869b66251d7a659d2deffacfd7a14", func := "loop.example/g03229/laws.FnConserved", spec := "fnConserved", unfollowed := true, recurses := true, apart := false, narrowed := true }
def FnConservedUptoSaid : Prop := fnConservedUptoRow.holds Try.pinned (OpenSpec.upto fnConservedSpec)

/-- 'laws.FnRow', WHERE WHAT IT READS IS OF BULK AT MOST 1048576: true; the input reads as it did. -/
def fnRowUptoRow : OpenClaim := { program := "ytndnklicfibkeaa", sum := "f9f107fd1919757fc0b322126a88ffc0ab4869b66251d7a659d2deffacfd7a14", func := "loop.example/g03229/laws.FnRow", spec := "fnRow", unfollowed := true, recurses := true, apart := false, narrowed := true }
def FnRowUptoSaid : Prop := fnRowUptoRow.holds Try.pinned (OpenSpec.upto fnRowSpec)

/-- 'laws.FnExactAddPictures', WHERE WHAT IT READS IS OF BULK AT MOST 1048576: true; the input reads as it did. -/
def fnExactAddPicturesUptoRow : OpenClaim := { program := "ytndnklicfibkeaa", sum := "f9f107fd1919757fc0b322126a88ffc0ab4869b66251d7a659d2deffacfd7a14", func := "loop.example/g03229/laws.FnExactAddPictures", spec := "fnExactAddPictures", unfollowed := true, recurses := true, apart := false, narrowed := true }
def FnExactAddPicturesUptoSaid : Prop := fnExactAddPicturesUptoRow.holds Try.pinned (OpenSpec.upto fnExactAddPicturesSpec)

/-- 'laws.FnEmpty', WHERE WHAT IT READS IS OF BULK AT MOST 1048576: true; the input reads as it did. -/
def fnEmptyUptoRow : OpenClaim := { program := "ytndnklicfibkeaa", sum := "f9f107fd1919757fc0b322126a88ffc0ab4869b66251d7a659d2deffacfd7a14", func := "loop.example/g03229/laws.FnEmpty", spec := "fnEmpty", unfollowed := true, recurses := true, apart := false, narrowed := true }
def FnEmptyUptoSaid : Prop := fnEmptyUptoRow.holds Try.pinned (OpenSpec.upto fnEmptySpec)

/-- 'laws.FnExactRowDots', WHERE WHAT IT READS IS OF BULK AT MOST 1048576: true; the input reads as it did. -/
def fnExactRowDotsUptoRow : OpenClaim := { program := "ytndnklicfibkeaa", sum := "f9f107fd1919757fc0b322126a88ffc0ab4869b66251d7a659d2deffacfd7a14", func := "loop.example/g03229/laws.FnExactRowDots", spec := "fnExactRowDots", unfollowed := true, recurses := true, apart := false, narrowed := true }
def FnExactRowDotsUptoSaid : Prop := fnExactRowDotsUptoRow.holds Try.pinned (OpenSpec.upto fnExactRowDotsSpec)

end Rows
end Go.Proofs.Ytndnklicfibkeaa
