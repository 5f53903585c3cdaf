-- Words of the kit's printer, laid by its print.sh for this seat; trimw.py left out what this seat's texts don't name.
import Derived.Test.YtingaflikkeefaaWInv
import Derived.Test.YtingaflikkeefaaWFootNe
namespace Go.Proofs.YtingaflikkeefaaW.PrintWords
open Go.RowKit
end Go.Proofs.YtingaflikkeefaaW.PrintWords
namespace Go.Proofs.YtingaflikkeefaaW.PrintLast
section
variable {ops : Array Oper} {a : Act} {o og : Oper} {g : Nat} {t : Tmp} {u : Bool}
end
end Go.Proofs.YtingaflikkeefaaW.PrintLast
