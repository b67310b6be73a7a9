/- Every exported constant has the value that the document gives. -/
import Derived.Test.YthfnjckfojikcaaP1
namespace Go.Proofs.Ythfnjckfojikcaa.Pure
open Go.RowKit Go.Proofs.Ythfnjckfojikcaa.P Go.Proofs.YthfnjckfojikcaaW.PrintWords Go.Proofs.YthfnjckfojikcaaW.PrintLast
theorem FnExactConstants : laws_FnExactConstants.Pure := by
  unfold laws_FnExactConstants.Pure
  decide
end Go.Proofs.Ythfnjckfojikcaa.Pure
