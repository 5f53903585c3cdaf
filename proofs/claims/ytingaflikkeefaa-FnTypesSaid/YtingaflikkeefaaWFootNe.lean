-- Words of the kit's printer, laid by its print.sh for this seat; trimw.py left out what this seat's texts don't name.
import Derived.Test.YtingaflikkeefaaWN
namespace Go.Proofs.YtingaflikkeefaaW.PrintWords
open Go.RowKit
namespace Kd
section
variable {α : Type} {d : Kd α} {W : World} {g n : Nat} {S ok : Nat → Prop} {A : Option Addr} {ad : Addr} {xs : List α}
end
end Kd
end Go.Proofs.YtingaflikkeefaaW.PrintWords
