-- Written by myprint.py, a program of this session, which runs the kit's printer with changes of its own. Lean checks it.
import Derived.Test.YtncajfbncgglcaaProg
import Derived.Below
import Derived.Deep.Draws
import Derived.Deep.AppendLies
import Derived.Maps.AppendAt
import Derived.OwnWalk
import Derived.Laws.BytesArg
import Derived.Laws.MakeOwn
import Derived.Laws.OwnMore
import Derived.Deep.OwnRows
import Derived.Tactics
import Derived.Lib.ConvBytes
import Derived.Laws.Slices
import Derived.WalkKit
import Derived.KernelRfl
import Derived.RowKit3
import Derived.Deep.LoopGhost
import Derived.Deep.QuietTactic
import Derived.BigQuiet
import Derived.WideLaws
import Derived.Deep.DeepCutAuto
import Derived.Deep.CutBlock
import Derived.Deep.RegionHeld3
import Derived.Laws.Rows
import Derived.Lib.AppendStr
import Derived.ArgAppend
import Derived.Laws.IdiomCopy
import Derived.OrdersHeld
import Derived.Laws.BitsLemmas
import Derived.RowKit
import Derived.Laws.Cover1
import Derived.Test.YtncajfbncgglcaaWWords
import Derived.Test.YtncajfbncgglcaaWLast
import Derived.Test.YtncajfbncgglcaaWTab
import Derived.Test.YtncajfbncgglcaaWFour
import Derived.Test.YtncajfbncgglcaaWQPut
import Derived.Test.YtncajfbncgglcaaWApart
import Derived.Test.YtncajfbncgglcaaWArr
import Derived.Test.YtncajfbncgglcaaWZeros
import Derived.Test.YtncajfbncgglcaaWFoot
import Derived.Test.YtncajfbncgglcaaWKept
import Derived.Test.YtncajfbncgglcaaWShare
import Derived.Test.YtncajfbncgglcaaWN
import Derived.Test.YtncajfbncgglcaaWFootNe
import Derived.Test.YtncajfbncgglcaaWAt
import Derived.Test.YtncajfbncgglcaaWEqStruct
import Derived.Test.YtncajfbncgglcaaWRepsOne
import Derived.Test.YtncajfbncgglcaaWInv
import Derived.Test.YtncajfbncgglcaaWInvWords
import Derived.Test.YtncajfbncgglcaaWGuard
import Derived.Test.YtncajfbncgglcaaWNEv
import Derived.Test.YtncajfbncgglcaaWMore
namespace Go.Proofs.Ytncajfbncgglcaa.XFI
open Go.RowKit Go.Proofs.YtncajfbncgglcaaW.PrintWords Go.Proofs.YtncajfbncgglcaaW.PrintLast Go.Proofs.YtncajfbncgglcaaW.PrintMore
attribute [local go_sem] max2_int min2_int max_two min_two max_three min_three max_four min_four   -- for this text's walks alone
set_option linter.unusedVariables false
set_option linter.unusedSimpArgs false



def errW : Option Int → Value
  | none => .nilIface
  | some c => .iface 0 (.int .i64 c)
theorem errW_none : errW none = .nilIface := rfl
theorem errW_some (c : Int) : errW (some c) = .iface 0 (.int .i64 c) := rfl

theorem c_len {α : Type} {d : Kd α} {w : World} {A : Option Addr} {n : Nat} {xs : List α} (h : xs.length = n) (hc : d.C w A xs.length xs) : d.C w A n xs := h ▸ hc
theorem info5 : (Try.prog.info? 5).map (fun i => (i.zero, i.size, i.bytes)) = some (some (.int .u8 0), 1, 1) := by kernel_rfl
-- the values' own types

end Go.Proofs.Ytncajfbncgglcaa.XFI
