/- Every exported constant has the value that the document gives, for no argument at all: no condition. -/
import Derived.Test.YtncajfbncgglcaaPFnExactConstantsx1
namespace Go.Proofs.Ytncajfbncgglcaa.Pure
open Go.RowKit Go.Proofs.Ytncajfbncgglcaa.PFnExactConstants Go.Proofs.YtncajfbncgglcaaW.PrintWords Go.Proofs.YtncajfbncgglcaaW.PrintLast

theorem FnExactConstants : laws_FnExactConstants.Pure := rfl

end Go.Proofs.Ytncajfbncgglcaa.Pure
