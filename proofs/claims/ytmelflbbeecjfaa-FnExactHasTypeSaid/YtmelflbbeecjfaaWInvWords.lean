-- Words of the kit's printer, laid by its print.sh for this seat; trimw.py left out what this seat's texts don't name.
import Derived.Test.YtmelflbbeecjfaaWInv
import Derived.Test.YtmelflbbeecjfaaWFootNe
namespace Go.Proofs.YtmelflbbeecjfaaW.PrintWords
open Go.RowKit
end Go.Proofs.YtmelflbbeecjfaaW.PrintWords
namespace Go.Proofs.YtmelflbbeecjfaaW.PrintLast
section
variable {ops : Array Oper} {a : Act} {o og : Oper} {g : Nat} {t : Tmp} {u : Bool}
end
end Go.Proofs.YtmelflbbeecjfaaW.PrintLast
