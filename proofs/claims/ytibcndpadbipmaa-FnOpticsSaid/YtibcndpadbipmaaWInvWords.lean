-- Words of the kit's printer, laid by its print.sh for this seat; trimw.py left out what this seat's texts don't name.
import Derived.Test.YtibcndpadbipmaaWInv
import Derived.Test.YtibcndpadbipmaaWFootNe
namespace Go.Proofs.YtibcndpadbipmaaW.PrintWords
open Go.RowKit
end Go.Proofs.YtibcndpadbipmaaW.PrintWords
namespace Go.Proofs.YtibcndpadbipmaaW.PrintLast
section
variable {ops : Array Oper} {a : Act} {o og : Oper} {g : Nat} {t : Tmp} {u : Bool}
end
end Go.Proofs.YtibcndpadbipmaaW.PrintLast
