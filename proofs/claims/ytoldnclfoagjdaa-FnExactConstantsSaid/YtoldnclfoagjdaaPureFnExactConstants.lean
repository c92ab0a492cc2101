/- The plain law behind FnExactConstants: the printed function returns true. No condition. -/
import Derived.Test.YtoldnclfoagjdaaPFnExactConstantsx1
namespace Go.Proofs.Ytoldnclfoagjdaa.Pure
open Go.RowKit Go.Proofs.Ytoldnclfoagjdaa.PFnExactConstants Go.Proofs.YtoldnclfoagjdaaW.PrintWords Go.Proofs.YtoldnclfoagjdaaW.PrintLast

theorem FnExactConstants : laws_FnExactConstants.Pure := by
  rfl

end Go.Proofs.Ytoldnclfoagjdaa.Pure
