-- Words of the kit's printer, laid by its print.sh for this seat; trimw.py left out what this seat's texts don't name.
import Derived.Test.YtingaflikkeefaaWApart
import Derived.Test.YtingaflikkeefaaWArr
namespace Go.Proofs.YtingaflikkeefaaW.PrintWords
open Go.RowKit
section
variable {P : Program}
end
namespace Kd
section
variable {P : Program} {ops : Array Oper} {rest : List Oper} {o : Oper} {a : Act} {Q : Exit → Act → World → Prop} {Kc : Act → World → Prop} {α : Type}
end
section
variable {α : Type} {d : Kd α} {e : Nat} {w : World} {base : Nat} {ok : Nat → Prop} {v : Value} {xs : List α}
end
section
variable {P : Program} {ops : Array Oper} {rest : List Oper} {o : Oper} {a : Act} {Q : Exit → Act → World → Prop} {Kc : Act → World → Prop} {α : Type}
end
end Kd
end Go.Proofs.YtingaflikkeefaaW.PrintWords
