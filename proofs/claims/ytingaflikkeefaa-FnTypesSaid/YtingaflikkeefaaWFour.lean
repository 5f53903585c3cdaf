-- Words of the kit's printer, laid by its print.sh for this seat; trimw.py left out what this seat's texts don't name.
import Derived.Test.YtingaflikkeefaaWTab
namespace Go.Proofs.YtingaflikkeefaaW.PrintLast
section
variable {P : Program} {ops : Array Oper} {Q : Exit → Act → World → Prop} {md : Region.Mode} {S : World → Prop} {ds : List Nat} {T : Bool × List (List Nat × List Nat)}
end
end Go.Proofs.YtingaflikkeefaaW.PrintLast
