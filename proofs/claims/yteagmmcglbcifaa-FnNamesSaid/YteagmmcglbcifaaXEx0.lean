-- Written by myprint.py, a program of this session, which runs the kit's printer with changes of its own. Lean checks it.
import Derived.Test.YteagmmcglbcifaaProg
import Derived.Below
import Derived.Deep.Draws
import Derived.Deep.AppendLies
import Derived.Maps.AppendAt
import Derived.OwnWalk
import Derived.Laws.BytesArg
import Derived.Laws.MakeOwn
import Derived.Laws.OwnMore
import Derived.Deep.OwnRows
import Derived.Tactics
import Derived.Lib.ConvBytes
import Derived.Laws.Slices
import Derived.WalkKit
import Derived.KernelRfl
import Derived.RowKit3
import Derived.Deep.LoopGhost
import Derived.Deep.QuietTactic
import Derived.BigQuiet
import Derived.WideLaws
import Derived.Deep.DeepCutAuto
import Derived.Deep.CutBlock
import Derived.Deep.RegionHeld3
import Derived.Laws.Rows
import Derived.Lib.AppendStr
import Derived.ArgAppend
import Derived.Laws.IdiomCopy
import Derived.OrdersHeld
import Derived.Laws.BitsLemmas
import Derived.RowKit
import Derived.Laws.Cover1
import Derived.Test.YteagmmcglbcifaaWWords
import Derived.Test.YteagmmcglbcifaaWLast
import Derived.Test.YteagmmcglbcifaaWTab
import Derived.Test.YteagmmcglbcifaaWFour
import Derived.Test.YteagmmcglbcifaaWQPut
import Derived.Test.YteagmmcglbcifaaWApart
import Derived.Test.YteagmmcglbcifaaWArr
import Derived.Test.YteagmmcglbcifaaWZeros
import Derived.Test.YteagmmcglbcifaaWFoot
import Derived.Test.YteagmmcglbcifaaWKept
import Derived.Test.YteagmmcglbcifaaWShare
import Derived.Test.YteagmmcglbcifaaWN
import Derived.Test.YteagmmcglbcifaaWFootNe
import Derived.Test.YteagmmcglbcifaaWAt
import Derived.Test.YteagmmcglbcifaaWEqStruct
import Derived.Test.YteagmmcglbcifaaWRepsOne
import Derived.Test.YteagmmcglbcifaaWInv
import Derived.Test.YteagmmcglbcifaaWInvWords
import Derived.Test.YteagmmcglbcifaaWGuard
import Derived.Test.YteagmmcglbcifaaWNEv
import Derived.Test.YteagmmcglbcifaaWMore
namespace Go.Proofs.Yteagmmcglbcifaa.XE
open Go.RowKit Go.Proofs.YteagmmcglbcifaaW.PrintWords Go.Proofs.YteagmmcglbcifaaW.PrintLast Go.Proofs.YteagmmcglbcifaaW.PrintMore
attribute [local go_sem] max2_int min2_int max_two min_two max_three min_three max_four min_four   -- for this text's walks alone
set_option linter.unusedVariables false
set_option linter.unusedSimpArgs false



def errW : Option Int → Value
  | none => .nilIface
  | some c => .iface 0 (.int .i64 c)
theorem errW_none : errW none = .nilIface := rfl
theorem errW_some (c : Int) : errW (some c) = .iface 0 (.int .i64 c) := rfl

theorem c_len {α : Type} {d : Kd α} {w : World} {A : Option Addr} {n : Nat} {xs : List α} (h : xs.length = n) (hc : d.C w A xs.length xs) : d.C w A n xs := h ▸ hc
theorem info3 : (Try.prog.info? 3).map (fun i => (i.zero, i.size, i.bytes)) = some (some (.int .i64 0), 1, 8) := by kernel_rfl
theorem info5 : (Try.prog.info? 5).map (fun i => (i.zero, i.size, i.bytes)) = some (some (.int .u8 0), 1, 1) := by kernel_rfl
theorem info9 : (Try.prog.info? 9).map (fun i => (i.zero, i.size, i.bytes)) = some (some (.string ⟨#[]⟩), 1, 16) := by kernel_rfl
-- the values' own types

end Go.Proofs.Yteagmmcglbcifaa.XE
