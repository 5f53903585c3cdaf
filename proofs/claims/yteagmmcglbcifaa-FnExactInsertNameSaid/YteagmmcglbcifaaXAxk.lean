/- What the laws' arguments are, once read: sizes and lengths within bounds, all the way down. -/
import Derived.Test.YteagmmcglbcifaaXAx0
import Derived.Test.YteagmmcglbcifaaOpens
namespace Go.Proofs.Yteagmmcglbcifaa.XA
open Go.RowKit Go.Proofs.YteagmmcglbcifaaW.PrintWords Go.Proofs.YteagmmcglbcifaaW.PrintLast Go.Proofs.Yteagmmcglbcifaa.Opens
set_option linter.unusedVariables false
end Go.Proofs.Yteagmmcglbcifaa.XA
