/-
  No cell of these rows narrows 'for every input' (looked for: loops, veiled, ifaces, maps, wideKeys, modest, calm, conditions, laid).
  DERIVED. THE GIVEN ROWS OF THIS SEAT. 12 by the template 'for every input the law returns true; each argument reads behind the call as it read before'; 0 by the template 'total and deterministic' (their statements: YtncajfbncgglcaaTotals.lean).
  GIVEN WITH THE SEED: the statements are not yours to turn. If you find one false, say at which input.
  Laid BY PROGRAM, IN A SANDBOX (cutbox-rows.mjs): the forced cells as the released guide's own fill.sh prints them over the translation 95c319463cc37e1c… (all of the seat's roots in one cut). By AI agents, Wed Nov 11 2026. No macro, syntax, notation, axiom, sorry.
-/
import Derived.Test.YtncajfbncgglcaaChecked
import GoSem.Claim
import GoSem.ClaimJoined
import GoSem.ClaimMapViews
import Derived.JoinedTies
import Derived.KernelRfl
namespace Go.Proofs.Ytncajfbncgglcaa
/- THE CELL 'sum', in the pinned program and in every row, IS THE sha256 OF THE DUMP (.gsa) THAT YtncajfbncgglcaaProg.lean LOADS. Nothing in Lean hashes anything: it is a label: what it is worth is what the hold of that sum in a sandbox is worth. -/
noncomputable def Try.pinned : Pinned := { name := "ytncajfbncgglcaa", sum := "95c319463cc37e1c2a5e60e9971225d531adb8e4a3074a2195351534fce67cbc", checked := Try.checked }
namespace Rows
def none {H : Type} : Left H := { results := [], args := [] }

/-- 'laws.FnExactConstants': WHATEVER THE INPUT: true; the input reads as it did. -/
def fnExactConstantsSpec : ChangeSpec := { name := "fnExactConstants", fn := fun _ => fun
  | [] => { results := [.lit (.bool true)], args := [] }
  | _ => none }
def fnExactConstantsRow : OpenClaim := { program := "ytncajfbncgglcaa", sum := "95c319463cc37e1c2a5e60e9971225d531adb8e4a3074a2195351534fce67cbc", func := "loop.example/g00592/laws.FnExactConstants", spec := "fnExactConstants", apart := false }
def FnExactConstantsSaid : Prop := fnExactConstantsRow.holds Try.pinned (OpenSpec.ofChange fnExactConstantsSpec)

/-- ITS FALSE NEIGHBOUR: 'it returns false'. Refute it at one input. -/
def fnExactConstantsWrong : ChangeSpec := { name := "fnExactConstants", fn := fun _ => fun
  | [] => { results := [.lit (.bool false)], args := [] }
  | _ => none }
def FnExactConstantsWrongFalsely : Prop := fnExactConstantsRow.holds Try.pinned (OpenSpec.ofChange fnExactConstantsWrong)

/-- 'laws.FnExactIsKind': WHATEVER THE INPUT: true; the input reads as it did. -/
def fnExactIsKindSpec : ChangeSpec := { name := "fnExactIsKind", fn := fun _ => fun
  | [d] => { results := [.lit (.bool true)], args := [d] }
  | _ => none }
def fnExactIsKindRow : OpenClaim := { program := "ytncajfbncgglcaa", sum := "95c319463cc37e1c2a5e60e9971225d531adb8e4a3074a2195351534fce67cbc", func := "loop.example/g00592/laws.FnExactIsKind", spec := "fnExactIsKind", apart := false }
def FnExactIsKindSaid : Prop := fnExactIsKindRow.holds Try.pinned (OpenSpec.ofChange fnExactIsKindSpec)

/-- ITS FALSE NEIGHBOUR: 'it returns false'. Refute it at one input. -/
def fnExactIsKindWrong : ChangeSpec := { name := "fnExactIsKind", fn := fun _ => fun
  | [d] => { results := [.lit (.bool false)], args := [d] }
  | _ => none }
def FnExactIsKindWrongFalsely : Prop := fnExactIsKindRow.holds Try.pinned (OpenSpec.ofChange fnExactIsKindWrong)

/-- 'laws.FnExactKindText': WHATEVER THE INPUT: true; the input reads as it did. -/
def fnExactKindTextSpec : ChangeSpec := { name := "fnExactKindText", fn := fun _ => fun
  | [d] => { results := [.lit (.bool true)], args := [d] }
  | _ => none }
def fnExactKindTextRow : OpenClaim := { program := "ytncajfbncgglcaa", sum := "95c319463cc37e1c2a5e60e9971225d531adb8e4a3074a2195351534fce67cbc", func := "loop.example/g00592/laws.FnExactKindText", spec := "fnExactKindText", apart := false }
def FnExactKindTextSaid : Prop := fnExactKindTextRow.holds Try.pinned (OpenSpec.ofChange fnExactKindTextSpec)

/-- ITS FALSE NEIGHBOUR: 'it returns false'. Refute it at one input. -/
def fnExactKindTextWrong : ChangeSpec := { name := "fnExactKindText", fn := fun _ => fun
  | [d] => { results := [.lit (.bool false)], args := [d] }
  | _ => none }
def FnExactKindTextWrongFalsely : Prop := fnExactKindTextRow.holds Try.pinned (OpenSpec.ofChange fnExactKindTextWrong)

/-- 'laws.FnExactIsWithin': WHATEVER THE INPUT: true; the input reads as it did. -/
def fnExactIsWithinSpec : ChangeSpec := { name := "fnExactIsWithin", fn := fun _ => fun
  | [d1, d2] => { results := [.lit (.bool true)], args := [d1, d2] }
  | _ => none }
def fnExactIsWithinRow : OpenClaim := { program := "ytncajfbncgglcaa", sum := "95c319463cc37e1c2a5e60e9971225d531adb8e4a3074a2195351534fce67cbc", func := "loop.example/g00592/laws.FnExactIsWithin", spec := "fnExactIsWithin", apart := false }
def FnExactIsWithinSaid : Prop := fnExactIsWithinRow.holds Try.pinned (OpenSpec.ofChange fnExactIsWithinSpec)

/-- ITS FALSE NEIGHBOUR: 'it returns false'. Refute it at one input. -/
def fnExactIsWithinWrong : ChangeSpec := { name := "fnExactIsWithin", fn := fun _ => fun
  | [d1, d2] => { results := [.lit (.bool false)], args := [d1, d2] }
  | _ => none }
def FnExactIsWithinWrongFalsely : Prop := fnExactIsWithinRow.holds Try.pinned (OpenSpec.ofChange fnExactIsWithinWrong)

/-- 'laws.FnExactFociRange': WHATEVER THE INPUT: true; the input reads as it did. -/
def fnExactFociRangeSpec : ChangeSpec := { name := "fnExactFociRange", fn := fun _ => fun
  | [d] => { results := [.lit (.bool true)], args := [d] }
  | _ => none }
def fnExactFociRangeRow : OpenClaim := { program := "ytncajfbncgglcaa", sum := "95c319463cc37e1c2a5e60e9971225d531adb8e4a3074a2195351534fce67cbc", func := "loop.example/g00592/laws.FnExactFociRange", spec := "fnExactFociRange", apart := false }
def FnExactFociRangeSaid : Prop := fnExactFociRangeRow.holds Try.pinned (OpenSpec.ofChange fnExactFociRangeSpec)

/-- ITS FALSE NEIGHBOUR: 'it returns false'. Refute it at one input. -/
def fnExactFociRangeWrong : ChangeSpec := { name := "fnExactFociRange", fn := fun _ => fun
  | [d] => { results := [.lit (.bool false)], args := [d] }
  | _ => none }
def FnExactFociRangeWrongFalsely : Prop := fnExactFociRangeRow.holds Try.pinned (OpenSpec.ofChange fnExactFociRangeWrong)

/-- 'laws.FnExactArityOf': WHATEVER THE INPUT: true; the input reads as it did. -/
def fnExactArityOfSpec : ChangeSpec := { name := "fnExactArityOf", fn := fun _ => fun
  | [d] => { results := [.lit (.bool true)], args := [d] }
  | _ => none }
def fnExactArityOfRow : OpenClaim := { program := "ytncajfbncgglcaa", sum := "95c319463cc37e1c2a5e60e9971225d531adb8e4a3074a2195351534fce67cbc", func := "loop.example/g00592/laws.FnExactArityOf", spec := "fnExactArityOf", apart := false }
def FnExactArityOfSaid : Prop := fnExactArityOfRow.holds Try.pinned (OpenSpec.ofChange fnExactArityOfSpec)

/-- ITS FALSE NEIGHBOUR: 'it returns false'. Refute it at one input. -/
def fnExactArityOfWrong : ChangeSpec := { name := "fnExactArityOf", fn := fun _ => fun
  | [d] => { results := [.lit (.bool false)], args := [d] }
  | _ => none }
def FnExactArityOfWrongFalsely : Prop := fnExactArityOfRow.holds Try.pinned (OpenSpec.ofChange fnExactArityOfWrong)

/-- 'laws.FnKinds': WHATEVER THE INPUT: true; the input reads as it did. -/
def fnKindsSpec : ChangeSpec := { name := "fnKinds", fn := fun _ => fun
  | [d] => { results := [.lit (.bool true)], args := [d] }
  | _ => none }
def fnKindsRow : OpenClaim := { program := "ytncajfbncgglcaa", sum := "95c319463cc37e1c2a5e60e9971225d531adb8e4a3074a2195351534fce67cbc", func := "loop.example/g00592/laws.FnKinds", spec := "fnKinds", apart := false }
def FnKindsSaid : Prop := fnKindsRow.holds Try.pinned (OpenSpec.ofChange fnKindsSpec)

/-- ITS FALSE NEIGHBOUR: 'it returns false'. Refute it at one input. -/
def fnKindsWrong : ChangeSpec := { name := "fnKinds", fn := fun _ => fun
  | [d] => { results := [.lit (.bool false)], args := [d] }
  | _ => none }
def FnKindsWrongFalsely : Prop := fnKindsRow.holds Try.pinned (OpenSpec.ofChange fnKindsWrong)

/-- 'laws.FnExactIsName': WHATEVER THE INPUT: true; the input reads as it did. -/
def fnExactIsNameSpec : ChangeSpec := { name := "fnExactIsName", fn := fun _ => fun
  | [d] => { results := [.lit (.bool true)], args := [d] }
  | _ => none }
def fnExactIsNameRow : OpenClaim := { program := "ytncajfbncgglcaa", sum := "95c319463cc37e1c2a5e60e9971225d531adb8e4a3074a2195351534fce67cbc", func := "loop.example/g00592/laws.FnExactIsName", spec := "fnExactIsName", apart := false }
def FnExactIsNameSaid : Prop := fnExactIsNameRow.holds Try.pinned (OpenSpec.ofChange fnExactIsNameSpec)

/-- ITS FALSE NEIGHBOUR: 'it returns false'. Refute it at one input. -/
def fnExactIsNameWrong : ChangeSpec := { name := "fnExactIsName", fn := fun _ => fun
  | [d] => { results := [.lit (.bool false)], args := [d] }
  | _ => none }
def FnExactIsNameWrongFalsely : Prop := fnExactIsNameRow.holds Try.pinned (OpenSpec.ofChange fnExactIsNameWrong)

/-- 'laws.FnExactFormatInt': WHATEVER THE INPUT: true; the input reads as it did. -/
def fnExactFormatIntSpec : ChangeSpec := { name := "fnExactFormatInt", fn := fun _ => fun
  | [d] => { results := [.lit (.bool true)], args := [d] }
  | _ => none }
def fnExactFormatIntRow : OpenClaim := { program := "ytncajfbncgglcaa", sum := "95c319463cc37e1c2a5e60e9971225d531adb8e4a3074a2195351534fce67cbc", func := "loop.example/g00592/laws.FnExactFormatInt", spec := "fnExactFormatInt", recurses := true, apart := false }
def FnExactFormatIntSaid : Prop := fnExactFormatIntRow.holds Try.pinned (OpenSpec.ofChange fnExactFormatIntSpec)

/-- ITS FALSE NEIGHBOUR: 'it returns false'. Refute it at one input. -/
def fnExactFormatIntWrong : ChangeSpec := { name := "fnExactFormatInt", fn := fun _ => fun
  | [d] => { results := [.lit (.bool false)], args := [d] }
  | _ => none }
def FnExactFormatIntWrongFalsely : Prop := fnExactFormatIntRow.holds Try.pinned (OpenSpec.ofChange fnExactFormatIntWrong)

/-- 'laws.FnExactJoinKinds': WHATEVER THE INPUT: true; the input reads as it did. -/
def fnExactJoinKindsSpec : ChangeSpec := { name := "fnExactJoinKinds", fn := fun _ => fun
  | [d1, d2] => { results := [.lit (.bool true)], args := [d1, d2] }
  | _ => none }
def fnExactJoinKindsRow : OpenClaim := { program := "ytncajfbncgglcaa", sum := "95c319463cc37e1c2a5e60e9971225d531adb8e4a3074a2195351534fce67cbc", func := "loop.example/g00592/laws.FnExactJoinKinds", spec := "fnExactJoinKinds", apart := false }
def FnExactJoinKindsSaid : Prop := fnExactJoinKindsRow.holds Try.pinned (OpenSpec.ofChange fnExactJoinKindsSpec)

/-- ITS FALSE NEIGHBOUR: 'it returns false'. Refute it at one input. -/
def fnExactJoinKindsWrong : ChangeSpec := { name := "fnExactJoinKinds", fn := fun _ => fun
  | [d1, d2] => { results := [.lit (.bool false)], args := [d1, d2] }
  | _ => none }
def FnExactJoinKindsWrongFalsely : Prop := fnExactJoinKindsRow.holds Try.pinned (OpenSpec.ofChange fnExactJoinKindsWrong)

/-- 'laws.FnExactAreAscending': WHATEVER THE INPUT: true; the input reads as it did. -/
def fnExactAreAscendingSpec : ChangeSpec := { name := "fnExactAreAscending", fn := fun _ => fun
  | [d] => { results := [.lit (.bool true)], args := [d] }
  | _ => none }
def fnExactAreAscendingRow : OpenClaim := { program := "ytncajfbncgglcaa", sum := "95c319463cc37e1c2a5e60e9971225d531adb8e4a3074a2195351534fce67cbc", func := "loop.example/g00592/laws.FnExactAreAscending", spec := "fnExactAreAscending", apart := false }
def FnExactAreAscendingSaid : Prop := fnExactAreAscendingRow.holds Try.pinned (OpenSpec.ofChange fnExactAreAscendingSpec)

/-- ITS FALSE NEIGHBOUR: 'it returns false'. Refute it at one input. -/
def fnExactAreAscendingWrong : ChangeSpec := { name := "fnExactAreAscending", fn := fun _ => fun
  | [d] => { results := [.lit (.bool false)], args := [d] }
  | _ => none }
def FnExactAreAscendingWrongFalsely : Prop := fnExactAreAscendingRow.holds Try.pinned (OpenSpec.ofChange fnExactAreAscendingWrong)

/-- 'laws.FnExactIndexOf': WHATEVER THE INPUT: true; the input reads as it did. -/
def fnExactIndexOfSpec : ChangeSpec := { name := "fnExactIndexOf", fn := fun _ => fun
  | [d1, d2] => { results := [.lit (.bool true)], args := [d1, d2] }
  | _ => none }
def fnExactIndexOfRow : OpenClaim := { program := "ytncajfbncgglcaa", sum := "95c319463cc37e1c2a5e60e9971225d531adb8e4a3074a2195351534fce67cbc", func := "loop.example/g00592/laws.FnExactIndexOf", spec := "fnExactIndexOf", apart := false }
def FnExactIndexOfSaid : Prop := fnExactIndexOfRow.holds Try.pinned (OpenSpec.ofChange fnExactIndexOfSpec)

/-- ITS FALSE NEIGHBOUR: 'it returns false'. Refute it at one input. -/
def fnExactIndexOfWrong : ChangeSpec := { name := "fnExactIndexOf", fn := fun _ => fun
  | [d1, d2] => { results := [.lit (.bool false)], args := [d1, d2] }
  | _ => none }
def FnExactIndexOfWrongFalsely : Prop := fnExactIndexOfRow.holds Try.pinned (OpenSpec.ofChange fnExactIndexOfWrong)

/- THE SECOND FORM. 'bulk': how many values and letters a reading holds, each counted each time it is reached (what is shared counts as often as it is met; a slice's spare places count too). A statement '..UptoSaid' is the law's where the arguments, and the package variables that the reading takes, are together of bulk at most 1048576: NARROWER than '..Said'. Prove '..Said' where nothing that the law and all that it calls make is longer than what came in: it says more and counts as full. Else prove '..UptoSaid'. A law counts once. -/
mutual
def uptoBulk {H : Type} : DataW H → Nat
  | .lit (.string bytes) => bytes.length + 1
  | .lit _ => 1
  | .nil => 1
  | .ptr d => uptoBulk d + 1
  | .slice elems spare => uptoBulkAll elems + uptoBulkAll spare + 1
  | .agg parts => uptoBulkAll parts + 1
  | .iface _ d => uptoBulk d + 1
  | .map entries => uptoBulkEntries entries + 1
  | .held _ => 1
def uptoBulkAll {H : Type} : List (DataW H) → Nat
  | [] => 0
  | d :: r => uptoBulk d + uptoBulkAll r
def uptoBulkEntries {H : Type} : List (Lit × DataW H) → Nat
  | [] => 0
  | x :: r => uptoBulkEntry x + uptoBulkEntries r
def uptoBulkEntry {H : Type} : Lit × DataW H → Nat
  | (.string bytes, d) => bytes.length + uptoBulk d + 1
  | (_, d) => uptoBulk d + 1
 end
def uptoSmall : (H : Type) → List (DataW H) → Bool := fun _ ds => decide (uptoBulkAll ds ≤ 1048576)
def OpenSpec.upto (s : _root_.Go.ChangeSpec) : _root_.Go.OpenSpec := { _root_.Go.OpenSpec.ofChange s with cond := some uptoSmall }

/-- 'laws.FnExactConstants', WHERE WHAT IT READS IS OF BULK AT MOST 1048576: true; the input reads as it did. -/
def fnExactConstantsUptoRow : OpenClaim := { program := "ytncajfbncgglcaa", sum := "95c319463cc37e1c2a5e60e9971225d531adb8e4a3074a2195351534fce67cbc", func := "loop.example/g00592/laws.FnExactConstants", spec := "fnExactConstants", apart := false, narrowed := true }
def FnExactConstantsUptoSaid : Prop := fnExactConstantsUptoRow.holds Try.pinned (OpenSpec.upto fnExactConstantsSpec)

/-- 'laws.FnExactIsKind', WHERE WHAT IT READS IS OF BULK AT MOST 1048576: true; the input reads as it did. -/
def fnExactIsKindUptoRow : OpenClaim := { program := "ytncajfbncgglcaa", sum := "95c319463cc37e1c2a5e60e9971225d531adb8e4a3074a2195351534fce67cbc", func := "loop.example/g00592/laws.FnExactIsKind", spec := "fnExactIsKind", apart := false, narrowed := true }
def FnExactIsKindUptoSaid : Prop := fnExactIsKindUptoRow.holds Try.pinned (OpenSpec.upto fnExactIsKindSpec)

/-- 'laws.FnExactKindText', WHERE WHAT IT READS IS OF BULK AT MOST 1048576: true; the input reads as it did. -/
def fnExactKindTextUptoRow : OpenClaim := { program := "ytncajfbncgglcaa", sum := "95c319463cc37e1c2a5e60e9971225d531adb8e4a3074a2195351534fce67cbc", func := "loop.example/g00592/laws.FnExactKindText", spec := "fnExactKindText", apart := false, narrowed := true }
def FnExactKindTextUptoSaid : Prop := fnExactKindTextUptoRow.holds Try.pinned (OpenSpec.upto fnExactKindTextSpec)

/-- 'laws.FnExactIsWithin', WHERE WHAT IT READS IS OF BULK AT MOST 1048576: true; the input reads as it did. -/
def fnExactIsWithinUptoRow : OpenClaim := { program := "ytncajfbncgglcaa", sum := "95c319463cc37e1c2a5e60e9971225d531adb8e4a3074a2195351534fce67cbc", func := "loop.example/g00592/laws.FnExactIsWithin", spec := "fnExactIsWithin", apart := false, narrowed := true }
def FnExactIsWithinUptoSaid : Prop := fnExactIsWithinUptoRow.holds Try.pinned (OpenSpec.upto fnExactIsWithinSpec)

/-- 'laws.FnExactFociRange', WHERE WHAT IT READS IS OF BULK AT MOST 1048576: true; the input reads as it did. -/
def fnExactFociRangeUptoRow : OpenClaim := { program := "ytncajfbncgglcaa", sum := "95c319463cc37e1c2a5e60e9971225d531adb8e4a3074a2195351534fce67cbc", func := "loop.example/g00592/laws.FnExactFociRange", spec := "fnExactFociRange", apart := false, narrowed := true }
def FnExactFociRangeUptoSaid : Prop := fnExactFociRangeUptoRow.holds Try.pinned (OpenSpec.upto fnExactFociRangeSpec)

/-- 'laws.FnExactArityOf', WHERE WHAT IT READS IS OF BULK AT MOST 1048576: true; the input reads as it did. -/
def fnExactArityOfUptoRow : OpenClaim := { program := "ytncajfbncgglcaa", sum := "95c319463cc37e1c2a5e60e9971225d531adb8e4a3074a2195351534fce67cbc", func := "loop.example/g00592/laws.FnExactArityOf", spec := "fnExactArityOf", apart := false, narrowed := true }
def FnExactArityOfUptoSaid : Prop := fnExactArityOfUptoRow.holds Try.pinned (OpenSpec.upto fnExactArityOfSpec)

/-- 'laws.FnKinds', WHERE WHAT IT READS IS OF BULK AT MOST 1048576: true; the input reads as it did. -/
def fnKindsUptoRow : OpenClaim := { program := "ytncajfbncgglcaa", sum := "95c319463cc37e1c2a5e60e9971225d531adb8e4a3074a2195351534fce67cbc", func := "loop.example/g00592/laws.FnKinds", spec := "fnKinds", apart := false, narrowed := true }
def FnKindsUptoSaid : Prop := fnKindsUptoRow.holds Try.pinned (OpenSpec.upto fnKindsSpec)

/-- 'laws.FnExactIsName', WHERE WHAT IT READS IS OF BULK AT MOST 1048576: true; the input reads as it did. -/
def fnExactIsNameUptoRow : OpenClaim := { program := "ytncajfbncgglcaa", sum := "95c319463cc37e1c2a5e60e9971225d531adb8e4a3074a2195351534fce67cbc", func := "loop.example/g00592/laws.FnExactIsName", spec := "fnExactIsName", apart := false, narrowed := true }
def FnExactIsNameUptoSaid : Prop := fnExactIsNameUptoRow.holds Try.pinned (OpenSpec.upto fnExactIsNameSpec)

/-- 'laws.FnExactFormatInt', WHERE WHAT IT READS IS OF BULK AT MOST 1048576: true; the input reads as it did. -/
def fnExactFormatIntUptoRow : OpenClaim := { program := "ytncajfbncgglcaa", sum := "95c319463cc37e1c2a5e60e9971225d531adb8e4a3074a2195351534fce67cbc", func := "loop.example/g00592/laws.FnExactFormatInt", spec := "fnExactFormatInt", recurses := true, apart := false, narrowed := true }
def FnExactFormatIntUptoSaid : Prop := fnExactFormatIntUptoRow.holds Try.pinned (OpenSpec.upto fnExactFormatIntSpec)

/-- 'laws.FnExactJoinKinds', WHERE WHAT IT READS IS OF BULK AT MOST 1048576: true; the input reads as it did. -/
def fnExactJoinKindsUptoRow : OpenClaim := { program := "ytncajfbncgglcaa", sum := "95c319463cc37e1c2a5e60e9971225d531adb8e4a3074a2195351534fce67cbc", func := "loop.example/g00592/laws.FnExactJoinKinds", spec := "fnExactJoinKinds", apart := false, narrowed := true }
def FnExactJoinKindsUptoSaid : Prop := fnExactJoinKindsUptoRow.holds Try.pinned (OpenSpec.upto fnExactJoinKindsSpec)

/-- 'laws.FnExactAreAscending', WHERE WHAT IT READS IS OF BULK AT MOST 1048576: true; the input reads as it did. -/
def fnExactAreAscendingUptoRow : OpenClaim := { program := "ytncajfbncgglcaa", sum := "95c319463cc37e1c2a5e60e9971225d531adb8e4a3074a2195351534fce67cbc", func := "loop.example/g00592/laws.FnExactAreAscending", spec := "fnExactAreAscending", apart := false, narrowed := true }
def FnExactAreAscendingUptoSaid : Prop := fnExactAreAscendingUptoRow.holds Try.pinned (OpenSpec.upto fnExactAreAscendingSpec)

/-- 'laws.FnExactIndexOf', WHERE WHAT IT READS IS OF BULK AT MOST 1048576: true; the input reads as it did. -/
def fnExactIndexOfUptoRow : OpenClaim := { program := "ytncajfbncgglcaa", sum := "95c319463cc37e1c2a5e60e9971225d531adb8e4a3074a2195351534fce67cbc", func := "loop.example/g00592/laws.FnExactIndexOf", spec := "fnExactIndexOf", apart := false, narrowed := true }
def FnExactIndexOfUptoSaid : Prop := fnExactIndexOfUptoRow.holds Try.pinned (OpenSpec.upto fnExactIndexOfSpec)

end Rows
end Go.Proofs.Ytncajfbncgglcaa
