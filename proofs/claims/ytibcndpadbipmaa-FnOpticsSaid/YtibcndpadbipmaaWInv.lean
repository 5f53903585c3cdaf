-- Words of the kit's printer, laid by its print.sh for this seat; trimw.py left out what this seat's texts don't name.
import Derived.Test.YtibcndpadbipmaaWTab
namespace Go.Proofs.YtibcndpadbipmaaW.PrintLast
def up (b : Nat → Bool) (i : Nat) : Nat → Bool := fun j => if j = i then true else b j
section
variable {P : Program} {ops : Array Oper} {Q : Exit → Act → World → Prop} {md : Region.Mode} {T : Bool × List (List Nat × List Nat)} {B : List Nat} {O : List Nat} {b : Nat → Bool} {i j n : Nat}
end
end Go.Proofs.YtibcndpadbipmaaW.PrintLast
