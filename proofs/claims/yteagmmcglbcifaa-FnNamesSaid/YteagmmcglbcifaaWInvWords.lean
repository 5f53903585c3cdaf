-- Words of the kit's printer, laid by its print.sh for this seat; trimw.py left out what this seat's texts don't name.
import Derived.Test.YteagmmcglbcifaaWInv
import Derived.Test.YteagmmcglbcifaaWFootNe
namespace Go.Proofs.YteagmmcglbcifaaW.PrintWords
open Go.RowKit
end Go.Proofs.YteagmmcglbcifaaW.PrintWords
namespace Go.Proofs.YteagmmcglbcifaaW.PrintLast
section
variable {ops : Array Oper} {a : Act} {o og : Oper} {g : Nat} {t : Tmp} {u : Bool}
end
end Go.Proofs.YteagmmcglbcifaaW.PrintLast
