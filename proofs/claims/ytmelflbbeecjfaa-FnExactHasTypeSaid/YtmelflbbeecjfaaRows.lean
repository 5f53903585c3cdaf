/-
  NARROWER THAN 'FOR EVERY INPUT', by the rows' own cells (each row's printed sentence says how): FnExactSizeOfValue: loops · FnExactEqualValue: loops · FnExactIsValue: loops · FnExactFormatValue: loops · FnExactDefaultOf: loops · FnExactHasType: loops.
  DERIVED. THE GIVEN ROWS OF THIS SEAT. 9 by the template 'for every input the law returns true; each argument reads behind the call as it read before'; 0 by the template 'total and deterministic' (their statements: YtmelflbbeecjfaaTotals.lean).
  GIVEN WITH THE SEED: the statements are not yours to turn. If you find one false, say at which input.
  Laid BY PROGRAM, IN A SANDBOX (cutbox-rows.mjs): the forced cells as the released guide's own fill.sh prints them over the translation ef8cc66b0de2ec2c… (all of the seat's roots in one cut). By AI agents, Wed Nov 11 2026. No macro, syntax, notation, axiom, sorry.
-/
import Derived.Test.YtmelflbbeecjfaaChecked
import GoSem.Claim
import GoSem.ClaimJoined
import GoSem.ClaimMapViews
import Derived.JoinedTies
import Derived.KernelRfl
namespace Go.Proofs.Ytmelflbbeecjfaa
/- THE CELL 'sum', in the pinned program and in every row, IS THE sha256 OF THE DUMP (.gsa) THAT YtmelflbbeecjfaaProg.lean LOADS. Nothing in Lean hashes anything: it is a label: what it is worth is what the hold of that sum in a sandbox is worth. -/
noncomputable def Try.pinned : Pinned := { name := "ytmelflbbeecjfaa", sum := "ef8cc66b0de2ec2cad707f55cdaec2d3da4a42955669559593fdab980dcfffd4", checked := Try.checked }
namespace Rows
def none {H : Type} : Left H := { results := [], args := [] }

/-- 'laws.FnExactSizeOfValue': WHATEVER THE INPUT: true; the input reads as it did. -/
def fnExactSizeOfValueSpec : ChangeSpec := { name := "fnExactSizeOfValue", fn := fun _ => fun
  | [d] => { results := [.lit (.bool true)], args := [d] }
  | _ => none }
def fnExactSizeOfValueRow : OpenClaim := { program := "ytmelflbbeecjfaa", sum := "ef8cc66b0de2ec2cad707f55cdaec2d3da4a42955669559593fdab980dcfffd4", func := "loop.example/g00592/laws.FnExactSizeOfValue", spec := "fnExactSizeOfValue", recurses := true, loops := true, apart := false }
def FnExactSizeOfValueSaid : Prop := fnExactSizeOfValueRow.holds Try.pinned (OpenSpec.ofChange fnExactSizeOfValueSpec)

/-- ITS FALSE NEIGHBOUR: 'it returns false'. Refute it at one input. -/
def fnExactSizeOfValueWrong : ChangeSpec := { name := "fnExactSizeOfValue", fn := fun _ => fun
  | [d] => { results := [.lit (.bool false)], args := [d] }
  | _ => none }
def FnExactSizeOfValueWrongFalsely : Prop := fnExactSizeOfValueRow.holds Try.pinned (OpenSpec.ofChange fnExactSizeOfValueWrong)

/-- 'laws.FnExactEqualValue': WHATEVER THE INPUT: true; the input reads as it did. -/
def fnExactEqualValueSpec : ChangeSpec := { name := "fnExactEqualValue", fn := fun _ => fun
  | [d1, d2] => { results := [.lit (.bool true)], args := [d1, d2] }
  | _ => none }
def fnExactEqualValueRow : OpenClaim := { program := "ytmelflbbeecjfaa", sum := "ef8cc66b0de2ec2cad707f55cdaec2d3da4a42955669559593fdab980dcfffd4", func := "loop.example/g00592/laws.FnExactEqualValue", spec := "fnExactEqualValue", recurses := true, loops := true, apart := false }
def FnExactEqualValueSaid : Prop := fnExactEqualValueRow.holds Try.pinned (OpenSpec.ofChange fnExactEqualValueSpec)

/-- ITS FALSE NEIGHBOUR: 'it returns false'. Refute it at one input. -/
def fnExactEqualValueWrong : ChangeSpec := { name := "fnExactEqualValue", fn := fun _ => fun
  | [d1, d2] => { results := [.lit (.bool false)], args := [d1, d2] }
  | _ => none }
def FnExactEqualValueWrongFalsely : Prop := fnExactEqualValueRow.holds Try.pinned (OpenSpec.ofChange fnExactEqualValueWrong)

/-- 'laws.FnExactIsValue': WHATEVER THE INPUT: true; the input reads as it did. -/
def fnExactIsValueSpec : ChangeSpec := { name := "fnExactIsValue", fn := fun _ => fun
  | [d] => { results := [.lit (.bool true)], args := [d] }
  | _ => none }
def fnExactIsValueRow : OpenClaim := { program := "ytmelflbbeecjfaa", sum := "ef8cc66b0de2ec2cad707f55cdaec2d3da4a42955669559593fdab980dcfffd4", func := "loop.example/g00592/laws.FnExactIsValue", spec := "fnExactIsValue", recurses := true, loops := true, apart := false }
def FnExactIsValueSaid : Prop := fnExactIsValueRow.holds Try.pinned (OpenSpec.ofChange fnExactIsValueSpec)

/-- ITS FALSE NEIGHBOUR: 'it returns false'. Refute it at one input. -/
def fnExactIsValueWrong : ChangeSpec := { name := "fnExactIsValue", fn := fun _ => fun
  | [d] => { results := [.lit (.bool false)], args := [d] }
  | _ => none }
def FnExactIsValueWrongFalsely : Prop := fnExactIsValueRow.holds Try.pinned (OpenSpec.ofChange fnExactIsValueWrong)

/-- 'laws.FnExactFormatValue': WHATEVER THE INPUT: true; the input reads as it did. -/
def fnExactFormatValueSpec : ChangeSpec := { name := "fnExactFormatValue", fn := fun _ => fun
  | [d] => { results := [.lit (.bool true)], args := [d] }
  | _ => none }
def fnExactFormatValueRow : OpenClaim := { program := "ytmelflbbeecjfaa", sum := "ef8cc66b0de2ec2cad707f55cdaec2d3da4a42955669559593fdab980dcfffd4", func := "loop.example/g00592/laws.FnExactFormatValue", spec := "fnExactFormatValue", recurses := true, loops := true, apart := false }
def FnExactFormatValueSaid : Prop := fnExactFormatValueRow.holds Try.pinned (OpenSpec.ofChange fnExactFormatValueSpec)

/-- ITS FALSE NEIGHBOUR: 'it returns false'. Refute it at one input. -/
def fnExactFormatValueWrong : ChangeSpec := { name := "fnExactFormatValue", fn := fun _ => fun
  | [d] => { results := [.lit (.bool false)], args := [d] }
  | _ => none }
def FnExactFormatValueWrongFalsely : Prop := fnExactFormatValueRow.holds Try.pinned (OpenSpec.ofChange fnExactFormatValueWrong)

/-- 'laws.FnExactDefaultOf': WHATEVER THE INPUT: true; the input reads as it did. -/
def fnExactDefaultOfSpec : ChangeSpec := { name := "fnExactDefaultOf", fn := fun _ => fun
  | [d] => { results := [.lit (.bool true)], args := [d] }
  | _ => none }
def fnExactDefaultOfRow : OpenClaim := { program := "ytmelflbbeecjfaa", sum := "ef8cc66b0de2ec2cad707f55cdaec2d3da4a42955669559593fdab980dcfffd4", func := "loop.example/g00592/laws.FnExactDefaultOf", spec := "fnExactDefaultOf", recurses := true, loops := true, apart := false }
def FnExactDefaultOfSaid : Prop := fnExactDefaultOfRow.holds Try.pinned (OpenSpec.ofChange fnExactDefaultOfSpec)

/-- ITS FALSE NEIGHBOUR: 'it returns false'. Refute it at one input. -/
def fnExactDefaultOfWrong : ChangeSpec := { name := "fnExactDefaultOf", fn := fun _ => fun
  | [d] => { results := [.lit (.bool false)], args := [d] }
  | _ => none }
def FnExactDefaultOfWrongFalsely : Prop := fnExactDefaultOfRow.holds Try.pinned (OpenSpec.ofChange fnExactDefaultOfWrong)

/-- 'laws.FnExactHasType': WHATEVER THE INPUT: true; the input reads as it did. -/
def fnExactHasTypeSpec : ChangeSpec := { name := "fnExactHasType", fn := fun _ => fun
  | [d1, d2] => { results := [.lit (.bool true)], args := [d1, d2] }
  | _ => none }
def fnExactHasTypeRow : OpenClaim := { program := "ytmelflbbeecjfaa", sum := "ef8cc66b0de2ec2cad707f55cdaec2d3da4a42955669559593fdab980dcfffd4", func := "loop.example/g00592/laws.FnExactHasType", spec := "fnExactHasType", recurses := true, loops := true, apart := false }
def FnExactHasTypeSaid : Prop := fnExactHasTypeRow.holds Try.pinned (OpenSpec.ofChange fnExactHasTypeSpec)

/-- ITS FALSE NEIGHBOUR: 'it returns false'. Refute it at one input. -/
def fnExactHasTypeWrong : ChangeSpec := { name := "fnExactHasType", fn := fun _ => fun
  | [d1, d2] => { results := [.lit (.bool false)], args := [d1, d2] }
  | _ => none }
def FnExactHasTypeWrongFalsely : Prop := fnExactHasTypeRow.holds Try.pinned (OpenSpec.ofChange fnExactHasTypeWrong)

/-- 'laws.FnExactParseValue': WHATEVER THE INPUT: true; the input reads as it did. -/
def fnExactParseValueSpec : ChangeSpec := { name := "fnExactParseValue", fn := fun _ => fun
  | [d] => { results := [.lit (.bool true)], args := [d] }
  | _ => none }
def fnExactParseValueRow : OpenClaim := { program := "ytmelflbbeecjfaa", sum := "ef8cc66b0de2ec2cad707f55cdaec2d3da4a42955669559593fdab980dcfffd4", func := "loop.example/g00592/laws.FnExactParseValue", spec := "fnExactParseValue", recurses := true, apart := false }
def FnExactParseValueSaid : Prop := fnExactParseValueRow.holds Try.pinned (OpenSpec.ofChange fnExactParseValueSpec)

/-- ITS FALSE NEIGHBOUR: 'it returns false'. Refute it at one input. -/
def fnExactParseValueWrong : ChangeSpec := { name := "fnExactParseValue", fn := fun _ => fun
  | [d] => { results := [.lit (.bool false)], args := [d] }
  | _ => none }
def FnExactParseValueWrongFalsely : Prop := fnExactParseValueRow.holds Try.pinned (OpenSpec.ofChange fnExactParseValueWrong)

/-- 'laws.FnValues': WHATEVER THE INPUT: true; the input reads as it did. -/
def fnValuesSpec : ChangeSpec := { name := "fnValues", fn := fun _ => fun
  | [d] => { results := [.lit (.bool true)], args := [d] }
  | _ => none }
def fnValuesRow : OpenClaim := { program := "ytmelflbbeecjfaa", sum := "ef8cc66b0de2ec2cad707f55cdaec2d3da4a42955669559593fdab980dcfffd4", func := "loop.example/g00592/laws.FnValues", spec := "fnValues", recurses := true, apart := false }
def FnValuesSaid : Prop := fnValuesRow.holds Try.pinned (OpenSpec.ofChange fnValuesSpec)

/-- ITS FALSE NEIGHBOUR: 'it returns false'. Refute it at one input. -/
def fnValuesWrong : ChangeSpec := { name := "fnValues", fn := fun _ => fun
  | [d] => { results := [.lit (.bool false)], args := [d] }
  | _ => none }
def FnValuesWrongFalsely : Prop := fnValuesRow.holds Try.pinned (OpenSpec.ofChange fnValuesWrong)

/-- 'laws.FnValueText': WHATEVER THE INPUT: true; the input reads as it did. -/
def fnValueTextSpec : ChangeSpec := { name := "fnValueText", fn := fun _ => fun
  | [d] => { results := [.lit (.bool true)], args := [d] }
  | _ => none }
def fnValueTextRow : OpenClaim := { program := "ytmelflbbeecjfaa", sum := "ef8cc66b0de2ec2cad707f55cdaec2d3da4a42955669559593fdab980dcfffd4", func := "loop.example/g00592/laws.FnValueText", spec := "fnValueText", recurses := true, apart := false }
def FnValueTextSaid : Prop := fnValueTextRow.holds Try.pinned (OpenSpec.ofChange fnValueTextSpec)

/-- ITS FALSE NEIGHBOUR: 'it returns false'. Refute it at one input. -/
def fnValueTextWrong : ChangeSpec := { name := "fnValueText", fn := fun _ => fun
  | [d] => { results := [.lit (.bool false)], args := [d] }
  | _ => none }
def FnValueTextWrongFalsely : Prop := fnValueTextRow.holds Try.pinned (OpenSpec.ofChange fnValueTextWrong)

/- THE SECOND FORM. 'bulk': how many values and letters a reading holds, each counted each time it is reached (what is shared counts as often as it is met; a slice's spare places count too). A statement '..UptoSaid' is the law's where the arguments, and the package variables that the reading takes, are together of bulk at most 1048576: NARROWER than '..Said'. Prove '..Said' where nothing that the law and all that it calls make is longer than what came in: it says more and counts as full. Else prove '..UptoSaid'. A law counts once. -/
mutual
def uptoBulk {H : Type} : DataW H → Nat
  | .lit (.string bytes) => bytes.length + 1
  | .lit _ => 1
  | .nil => 1
  | .ptr d => uptoBulk d + 1
  | .slice elems spare => uptoBulkAll elems + uptoBulkAll spare + 1
  | .agg parts => uptoBulkAll parts + 1
  | .iface _ d => uptoBulk d + 1
  | .map entries => uptoBulkEntries entries + 1
  | .held _ => 1
def uptoBulkAll {H : Type} : List (DataW H) → Nat
  | [] => 0
  | d :: r => uptoBulk d + uptoBulkAll r
def uptoBulkEntries {H : Type} : List (Lit × DataW H) → Nat
  | [] => 0
  | x :: r => uptoBulkEntry x + uptoBulkEntries r
def uptoBulkEntry {H : Type} : Lit × DataW H → Nat
  | (.string bytes, d) => bytes.length + uptoBulk d + 1
  | (_, d) => uptoBulk d + 1
 end
def uptoSmall : (H : Type) → List (DataW H) → Bool := fun _ ds => decide (uptoBulkAll ds ≤ 1048576)
def OpenSpec.upto (s : _root_.Go.ChangeSpec) : _root_.Go.OpenSpec := { _root_.Go.OpenSpec.ofChange s with cond := some uptoSmall }

/-- 'laws.FnExactSizeOfValue', WHERE WHAT IT READS IS OF BULK AT MOST 1048576: true; the input reads as it did. -/
def fnExactSizeOfValueUptoRow : OpenClaim := { program := "ytmelflbbeecjfaa", sum := "ef8cc66b0de2ec2cad707f55cdaec2d3da4a42955669559593fdab980dcfffd4", func := "loop.example/g00592/laws.FnExactSizeOfValue", spec := "fnExactSizeOfValue", recurses := true, loops := true, apart := false, narrowed := true }
def FnExactSizeOfValueUptoSaid : Prop := fnExactSizeOfValueUptoRow.holds Try.pinned (OpenSpec.upto fnExactSizeOfValueSpec)

/-- 'laws.FnExactEqualValue', WHERE WHAT IT READS IS OF BULK AT MOST 1048576: true; the input reads as it did. -/
def fnExactEqualValueUptoRow : OpenClaim := { program := "ytmelflbbeecjfaa", sum := "ef8cc66b0de2ec2cad707f55cdaec2d3da4a42955669559593fdab980dcfffd4", func := "loop.example/g00592/laws.FnExactEqualValue", spec := "fnExactEqualValue", recurses := true, loops := true, apart := false, narrowed := true }
def FnExactEqualValueUptoSaid : Prop := fnExactEqualValueUptoRow.holds Try.pinned (OpenSpec.upto fnExactEqualValueSpec)

/-- 'laws.FnExactIsValue', WHERE WHAT IT READS IS OF BULK AT MOST 1048576: true; the input reads as it did. -/
def fnExactIsValueUptoRow : OpenClaim := { program := "ytmelflbbeecjfaa", sum := "ef8cc66b0de2ec2cad707f55cdaec2d3da4a42955669559593fdab980dcfffd4", func := "loop.example/g00592/laws.FnExactIsValue", spec := "fnExactIsValue", recurses := true, loops := true, apart := false, narrowed := true }
def FnExactIsValueUptoSaid : Prop := fnExactIsValueUptoRow.holds Try.pinned (OpenSpec.upto fnExactIsValueSpec)

/-- 'laws.FnExactFormatValue', WHERE WHAT IT READS IS OF BULK AT MOST 1048576: true; the input reads as it did. -/
def fnExactFormatValueUptoRow : OpenClaim := { program := "ytmelflbbeecjfaa", sum := "ef8cc66b0de2ec2cad707f55cdaec2d3da4a42955669559593fdab980dcfffd4", func := "loop.example/g00592/laws.FnExactFormatValue", spec := "fnExactFormatValue", recurses := true, loops := true, apart := false, narrowed := true }
def FnExactFormatValueUptoSaid : Prop := fnExactFormatValueUptoRow.holds Try.pinned (OpenSpec.upto fnExactFormatValueSpec)

/-- 'laws.FnExactDefaultOf', WHERE WHAT IT READS IS OF BULK AT MOST 1048576: true; the input reads as it did. -/
def fnExactDefaultOfUptoRow : OpenClaim := { program := "ytmelflbbeecjfaa", sum := "ef8cc66b0de2ec2cad707f55cdaec2d3da4a42955669559593fdab980dcfffd4", func := "loop.example/g00592/laws.FnExactDefaultOf", spec := "fnExactDefaultOf", recurses := true, loops := true, apart := false, narrowed := true }
def FnExactDefaultOfUptoSaid : Prop := fnExactDefaultOfUptoRow.holds Try.pinned (OpenSpec.upto fnExactDefaultOfSpec)

/-- 'laws.FnExactHasType', WHERE WHAT IT READS IS OF BULK AT MOST 1048576: true; the input reads as it did. -/
def fnExactHasTypeUptoRow : OpenClaim := { program := "ytmelflbbeecjfaa", sum := "ef8cc66b0de2ec2cad707f55cdaec2d3da4a42955669559593fdab980dcfffd4", func := "loop.example/g00592/laws.FnExactHasType", spec := "fnExactHasType", recurses := true, loops := true, apart := false, narrowed := true }
def FnExactHasTypeUptoSaid : Prop := fnExactHasTypeUptoRow.holds Try.pinned (OpenSpec.upto fnExactHasTypeSpec)

/-- 'laws.FnExactParseValue', WHERE WHAT IT READS IS OF BULK AT MOST 1048576: true; the input reads as it did. -/
def fnExactParseValueUptoRow : OpenClaim := { program := "ytmelflbbeecjfaa", sum := "ef8cc66b0de2ec2cad707f55cdaec2d3da4a42955669559593fdab980dcfffd4", func := "loop.example/g00592/laws.FnExactParseValue", spec := "fnExactParseValue", recurses := true, apart := false, narrowed := true }
def FnExactParseValueUptoSaid : Prop := fnExactParseValueUptoRow.holds Try.pinned (OpenSpec.upto fnExactParseValueSpec)

/-- 'laws.FnValues', WHERE WHAT IT READS IS OF BULK AT MOST 1048576: true; the input reads as it did. -/
def fnValuesUptoRow : OpenClaim := { program := "ytmelflbbeecjfaa", sum := "ef8cc66b0de2ec2cad707f55cdaec2d3da4a42955669559593fdab980dcfffd4", func := "loop.example/g00592/laws.FnValues", spec := "fnValues", recurses := true, apart := false, narrowed := true }
def FnValuesUptoSaid : Prop := fnValuesUptoRow.holds Try.pinned (OpenSpec.upto fnValuesSpec)

/-- 'laws.FnValueText', WHERE WHAT IT READS IS OF BULK AT MOST 1048576: true; the input reads as it did. -/
def fnValueTextUptoRow : OpenClaim := { program := "ytmelflbbeecjfaa", sum := "ef8cc66b0de2ec2cad707f55cdaec2d3da4a42955669559593fdab980dcfffd4", func := "loop.example/g00592/laws.FnValueText", spec := "fnValueText", recurses := true, apart := false, narrowed := true }
def FnValueTextUptoSaid : Prop := fnValueTextUptoRow.holds Try.pinned (OpenSpec.upto fnValueTextSpec)

end Rows
end Go.Proofs.Ytmelflbbeecjfaa
