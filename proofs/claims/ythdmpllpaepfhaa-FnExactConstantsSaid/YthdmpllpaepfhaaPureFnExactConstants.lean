/- The law FnExactConstants: every exported constant of the program has the value that the specification gives. No condition. -/
import Derived.Test.YthdmpllpaepfhaaPFnExactConstantsx1
namespace Go.Proofs.Ythdmpllpaepfhaa.Pure
open Go.RowKit Go.Proofs.Ythdmpllpaepfhaa.PFnExactConstants Go.Proofs.YthdmpllpaepfhaaW.PrintWords Go.Proofs.YthdmpllpaepfhaaW.PrintLast

theorem FnExactConstants : laws_FnExactConstants.Pure := by
  unfold laws_FnExactConstants.Pure laws_FnExactConstants.f
  rfl

end Go.Proofs.Ythdmpllpaepfhaa.Pure
