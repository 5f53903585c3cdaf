/- What the laws' arguments are, once read: sizes and lengths within bounds, all the way down. -/
import Derived.Test.YtncajfbncgglcaaXLx0
import Derived.Test.YtncajfbncgglcaaOpens
namespace Go.Proofs.Ytncajfbncgglcaa.XL
open Go.RowKit Go.Proofs.YtncajfbncgglcaaW.PrintWords Go.Proofs.YtncajfbncgglcaaW.PrintLast Go.Proofs.Ytncajfbncgglcaa.Opens
set_option linter.unusedVariables false
end Go.Proofs.Ytncajfbncgglcaa.XL
