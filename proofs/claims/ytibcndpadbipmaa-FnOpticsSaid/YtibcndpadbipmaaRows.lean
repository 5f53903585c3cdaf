/-
  NARROWER THAN 'FOR EVERY INPUT', by the rows' own cells (each row's printed sentence says how): FnExactSizeOf: loops · FnExactDepthOf: loops · FnExactEqualOptic: loops · FnExactIsOptic: loops · FnExactIsStructural: loops · FnExactIsPlain: loops · FnExactFormatOptic: loops.
  DERIVED. THE GIVEN ROWS OF THIS SEAT. 10 by the template 'for every input the law returns true; each argument reads behind the call as it read before'; 0 by the template 'total and deterministic' (their statements: YtibcndpadbipmaaTotals.lean).
  GIVEN WITH THE SEED: the statements are not yours to turn. If you find one false, say at which input.
  Laid BY PROGRAM, IN A SANDBOX (cutbox-rows.mjs): the forced cells as the released guide's own fill.sh prints them over the translation a7396338088bbb65… (all of the seat's roots in one cut). By AI agents, Wed Nov 11 2026. No macro, syntax, notation, axiom, sorry.
-/
import Derived.Test.YtibcndpadbipmaaChecked
import GoSem.Claim
import GoSem.ClaimJoined
import GoSem.ClaimMapViews
import Derived.JoinedTies
import Derived.KernelRfl
namespace Go.Proofs.Ytibcndpadbipmaa
/- THE CELL 'sum', in the pinned program and in every row, IS THE sha256 OF THE DUMP (.gsa) THAT YtibcndpadbipmaaProg.lean LOADS. Nothing in Lean hashes anything: it is a label: what it is worth is what the hold of that sum in a sandbox is worth. -/
noncomputable def Try.pinned : Pinned := { name := "ytibcndpadbipmaa", sum := "a7396338088bbb654e697bbeb5f76679ee63eb97166e2c8256f11ae2937b9cff", checked := Try.checked }
namespace Rows
def none {H : Type} : Left H := { results := [], args := [] }

/-- 'laws.FnExactSizeOf': WHATEVER THE INPUT: true; the input reads as it did. -/
def fnExactSizeOfSpec : ChangeSpec := { name := "fnExactSizeOf", fn := fun _ => fun
  | [d] => { results := [.lit (.bool true)], args := [d] }
  | _ => none }
def fnExactSizeOfRow : OpenClaim := { program := "ytibcndpadbipmaa", sum := "a7396338088bbb654e697bbeb5f76679ee63eb97166e2c8256f11ae2937b9cff", func := "loop.example/g00592/laws.FnExactSizeOf", spec := "fnExactSizeOf", recurses := true, loops := true, apart := false }
def FnExactSizeOfSaid : Prop := fnExactSizeOfRow.holds Try.pinned (OpenSpec.ofChange fnExactSizeOfSpec)

/-- ITS FALSE NEIGHBOUR: 'it returns false'. Refute it at one input. -/
def fnExactSizeOfWrong : ChangeSpec := { name := "fnExactSizeOf", fn := fun _ => fun
  | [d] => { results := [.lit (.bool false)], args := [d] }
  | _ => none }
def FnExactSizeOfWrongFalsely : Prop := fnExactSizeOfRow.holds Try.pinned (OpenSpec.ofChange fnExactSizeOfWrong)

/-- 'laws.FnExactDepthOf': WHATEVER THE INPUT: true; the input reads as it did. -/
def fnExactDepthOfSpec : ChangeSpec := { name := "fnExactDepthOf", fn := fun _ => fun
  | [d] => { results := [.lit (.bool true)], args := [d] }
  | _ => none }
def fnExactDepthOfRow : OpenClaim := { program := "ytibcndpadbipmaa", sum := "a7396338088bbb654e697bbeb5f76679ee63eb97166e2c8256f11ae2937b9cff", func := "loop.example/g00592/laws.FnExactDepthOf", spec := "fnExactDepthOf", recurses := true, loops := true, apart := false }
def FnExactDepthOfSaid : Prop := fnExactDepthOfRow.holds Try.pinned (OpenSpec.ofChange fnExactDepthOfSpec)

/-- ITS FALSE NEIGHBOUR: 'it returns false'. Refute it at one input. -/
def fnExactDepthOfWrong : ChangeSpec := { name := "fnExactDepthOf", fn := fun _ => fun
  | [d] => { results := [.lit (.bool false)], args := [d] }
  | _ => none }
def FnExactDepthOfWrongFalsely : Prop := fnExactDepthOfRow.holds Try.pinned (OpenSpec.ofChange fnExactDepthOfWrong)

/-- 'laws.FnExactEqualOptic': WHATEVER THE INPUT: true; the input reads as it did. -/
def fnExactEqualOpticSpec : ChangeSpec := { name := "fnExactEqualOptic", fn := fun _ => fun
  | [d1, d2] => { results := [.lit (.bool true)], args := [d1, d2] }
  | _ => none }
def fnExactEqualOpticRow : OpenClaim := { program := "ytibcndpadbipmaa", sum := "a7396338088bbb654e697bbeb5f76679ee63eb97166e2c8256f11ae2937b9cff", func := "loop.example/g00592/laws.FnExactEqualOptic", spec := "fnExactEqualOptic", recurses := true, loops := true, apart := false }
def FnExactEqualOpticSaid : Prop := fnExactEqualOpticRow.holds Try.pinned (OpenSpec.ofChange fnExactEqualOpticSpec)

/-- ITS FALSE NEIGHBOUR: 'it returns false'. Refute it at one input. -/
def fnExactEqualOpticWrong : ChangeSpec := { name := "fnExactEqualOptic", fn := fun _ => fun
  | [d1, d2] => { results := [.lit (.bool false)], args := [d1, d2] }
  | _ => none }
def FnExactEqualOpticWrongFalsely : Prop := fnExactEqualOpticRow.holds Try.pinned (OpenSpec.ofChange fnExactEqualOpticWrong)

/-- 'laws.FnExactIsOptic': WHATEVER THE INPUT: true; the input reads as it did. -/
def fnExactIsOpticSpec : ChangeSpec := { name := "fnExactIsOptic", fn := fun _ => fun
  | [d] => { results := [.lit (.bool true)], args := [d] }
  | _ => none }
def fnExactIsOpticRow : OpenClaim := { program := "ytibcndpadbipmaa", sum := "a7396338088bbb654e697bbeb5f76679ee63eb97166e2c8256f11ae2937b9cff", func := "loop.example/g00592/laws.FnExactIsOptic", spec := "fnExactIsOptic", recurses := true, loops := true, apart := false }
def FnExactIsOpticSaid : Prop := fnExactIsOpticRow.holds Try.pinned (OpenSpec.ofChange fnExactIsOpticSpec)

/-- ITS FALSE NEIGHBOUR: 'it returns false'. Refute it at one input. -/
def fnExactIsOpticWrong : ChangeSpec := { name := "fnExactIsOptic", fn := fun _ => fun
  | [d] => { results := [.lit (.bool false)], args := [d] }
  | _ => none }
def FnExactIsOpticWrongFalsely : Prop := fnExactIsOpticRow.holds Try.pinned (OpenSpec.ofChange fnExactIsOpticWrong)

/-- 'laws.FnExactIsStructural': WHATEVER THE INPUT: true; the input reads as it did. -/
def fnExactIsStructuralSpec : ChangeSpec := { name := "fnExactIsStructural", fn := fun _ => fun
  | [d] => { results := [.lit (.bool true)], args := [d] }
  | _ => none }
def fnExactIsStructuralRow : OpenClaim := { program := "ytibcndpadbipmaa", sum := "a7396338088bbb654e697bbeb5f76679ee63eb97166e2c8256f11ae2937b9cff", func := "loop.example/g00592/laws.FnExactIsStructural", spec := "fnExactIsStructural", recurses := true, loops := true, apart := false }
def FnExactIsStructuralSaid : Prop := fnExactIsStructuralRow.holds Try.pinned (OpenSpec.ofChange fnExactIsStructuralSpec)

/-- ITS FALSE NEIGHBOUR: 'it returns false'. Refute it at one input. -/
def fnExactIsStructuralWrong : ChangeSpec := { name := "fnExactIsStructural", fn := fun _ => fun
  | [d] => { results := [.lit (.bool false)], args := [d] }
  | _ => none }
def FnExactIsStructuralWrongFalsely : Prop := fnExactIsStructuralRow.holds Try.pinned (OpenSpec.ofChange fnExactIsStructuralWrong)

/-- 'laws.FnExactIsPlain': WHATEVER THE INPUT: true; the input reads as it did. -/
def fnExactIsPlainSpec : ChangeSpec := { name := "fnExactIsPlain", fn := fun _ => fun
  | [d] => { results := [.lit (.bool true)], args := [d] }
  | _ => none }
def fnExactIsPlainRow : OpenClaim := { program := "ytibcndpadbipmaa", sum := "a7396338088bbb654e697bbeb5f76679ee63eb97166e2c8256f11ae2937b9cff", func := "loop.example/g00592/laws.FnExactIsPlain", spec := "fnExactIsPlain", recurses := true, loops := true, apart := false }
def FnExactIsPlainSaid : Prop := fnExactIsPlainRow.holds Try.pinned (OpenSpec.ofChange fnExactIsPlainSpec)

/-- ITS FALSE NEIGHBOUR: 'it returns false'. Refute it at one input. -/
def fnExactIsPlainWrong : ChangeSpec := { name := "fnExactIsPlain", fn := fun _ => fun
  | [d] => { results := [.lit (.bool false)], args := [d] }
  | _ => none }
def FnExactIsPlainWrongFalsely : Prop := fnExactIsPlainRow.holds Try.pinned (OpenSpec.ofChange fnExactIsPlainWrong)

/-- 'laws.FnOptics': WHATEVER THE INPUT: true; the input reads as it did. -/
def fnOpticsSpec : ChangeSpec := { name := "fnOptics", fn := fun _ => fun
  | [d] => { results := [.lit (.bool true)], args := [d] }
  | _ => none }
def fnOpticsRow : OpenClaim := { program := "ytibcndpadbipmaa", sum := "a7396338088bbb654e697bbeb5f76679ee63eb97166e2c8256f11ae2937b9cff", func := "loop.example/g00592/laws.FnOptics", spec := "fnOptics", recurses := true, apart := false }
def FnOpticsSaid : Prop := fnOpticsRow.holds Try.pinned (OpenSpec.ofChange fnOpticsSpec)

/-- ITS FALSE NEIGHBOUR: 'it returns false'. Refute it at one input. -/
def fnOpticsWrong : ChangeSpec := { name := "fnOptics", fn := fun _ => fun
  | [d] => { results := [.lit (.bool false)], args := [d] }
  | _ => none }
def FnOpticsWrongFalsely : Prop := fnOpticsRow.holds Try.pinned (OpenSpec.ofChange fnOpticsWrong)

/-- 'laws.FnExactFormatOptic': WHATEVER THE INPUT: true; the input reads as it did. -/
def fnExactFormatOpticSpec : ChangeSpec := { name := "fnExactFormatOptic", fn := fun _ => fun
  | [d] => { results := [.lit (.bool true)], args := [d] }
  | _ => none }
def fnExactFormatOpticRow : OpenClaim := { program := "ytibcndpadbipmaa", sum := "a7396338088bbb654e697bbeb5f76679ee63eb97166e2c8256f11ae2937b9cff", func := "loop.example/g00592/laws.FnExactFormatOptic", spec := "fnExactFormatOptic", recurses := true, loops := true, apart := false }
def FnExactFormatOpticSaid : Prop := fnExactFormatOpticRow.holds Try.pinned (OpenSpec.ofChange fnExactFormatOpticSpec)

/-- ITS FALSE NEIGHBOUR: 'it returns false'. Refute it at one input. -/
def fnExactFormatOpticWrong : ChangeSpec := { name := "fnExactFormatOptic", fn := fun _ => fun
  | [d] => { results := [.lit (.bool false)], args := [d] }
  | _ => none }
def FnExactFormatOpticWrongFalsely : Prop := fnExactFormatOpticRow.holds Try.pinned (OpenSpec.ofChange fnExactFormatOpticWrong)

/-- 'laws.FnExactParseOptic': WHATEVER THE INPUT: true; the input reads as it did. -/
def fnExactParseOpticSpec : ChangeSpec := { name := "fnExactParseOptic", fn := fun _ => fun
  | [d] => { results := [.lit (.bool true)], args := [d] }
  | _ => none }
def fnExactParseOpticRow : OpenClaim := { program := "ytibcndpadbipmaa", sum := "a7396338088bbb654e697bbeb5f76679ee63eb97166e2c8256f11ae2937b9cff", func := "loop.example/g00592/laws.FnExactParseOptic", spec := "fnExactParseOptic", recurses := true, apart := false }
def FnExactParseOpticSaid : Prop := fnExactParseOpticRow.holds Try.pinned (OpenSpec.ofChange fnExactParseOpticSpec)

/-- ITS FALSE NEIGHBOUR: 'it returns false'. Refute it at one input. -/
def fnExactParseOpticWrong : ChangeSpec := { name := "fnExactParseOptic", fn := fun _ => fun
  | [d] => { results := [.lit (.bool false)], args := [d] }
  | _ => none }
def FnExactParseOpticWrongFalsely : Prop := fnExactParseOpticRow.holds Try.pinned (OpenSpec.ofChange fnExactParseOpticWrong)

/-- 'laws.FnOpticText': WHATEVER THE INPUT: true; the input reads as it did. -/
def fnOpticTextSpec : ChangeSpec := { name := "fnOpticText", fn := fun _ => fun
  | [d] => { results := [.lit (.bool true)], args := [d] }
  | _ => none }
def fnOpticTextRow : OpenClaim := { program := "ytibcndpadbipmaa", sum := "a7396338088bbb654e697bbeb5f76679ee63eb97166e2c8256f11ae2937b9cff", func := "loop.example/g00592/laws.FnOpticText", spec := "fnOpticText", recurses := true, apart := false }
def FnOpticTextSaid : Prop := fnOpticTextRow.holds Try.pinned (OpenSpec.ofChange fnOpticTextSpec)

/-- ITS FALSE NEIGHBOUR: 'it returns false'. Refute it at one input. -/
def fnOpticTextWrong : ChangeSpec := { name := "fnOpticText", fn := fun _ => fun
  | [d] => { results := [.lit (.bool false)], args := [d] }
  | _ => none }
def FnOpticTextWrongFalsely : Prop := fnOpticTextRow.holds Try.pinned (OpenSpec.ofChange fnOpticTextWrong)

/- THE SECOND FORM. 'bulk': how many values and letters a reading holds, each counted each time it is reached (what is shared counts as often as it is met; a slice's spare places count too). A statement '..UptoSaid' is the law's where the arguments, and the package variables that the reading takes, are together of bulk at most 1048576: NARROWER than '..Said'. Prove '..Said' where nothing that the law and all that it calls make is longer than what came in: it says more and counts as full. Else prove '..UptoSaid'. A law counts once. -/
mutual
def uptoBulk {H : Type} : DataW H → Nat
  | .lit (.string bytes) => bytes.length + 1
  | .lit _ => 1
  | .nil => 1
  | .ptr d => uptoBulk d + 1
  | .slice elems spare => uptoBulkAll elems + uptoBulkAll spare + 1
  | .agg parts => uptoBulkAll parts + 1
  | .iface _ d => uptoBulk d + 1
  | .map entries => uptoBulkEntries entries + 1
  | .held _ => 1
def uptoBulkAll {H : Type} : List (DataW H) → Nat
  | [] => 0
  | d :: r => uptoBulk d + uptoBulkAll r
def uptoBulkEntries {H : Type} : List (Lit × DataW H) → Nat
  | [] => 0
  | x :: r => uptoBulkEntry x + uptoBulkEntries r
def uptoBulkEntry {H : Type} : Lit × DataW H → Nat
  | (.string bytes, d) => bytes.length + uptoBulk d + 1
  | (_, d) => uptoBulk d + 1
 end
def uptoSmall : (H : Type) → List (DataW H) → Bool := fun _ ds => decide (uptoBulkAll ds ≤ 1048576)
def OpenSpec.upto (s : _root_.Go.ChangeSpec) : _root_.Go.OpenSpec := { _root_.Go.OpenSpec.ofChange s with cond := some uptoSmall }

/-- 'laws.FnExactSizeOf', WHERE WHAT IT READS IS OF BULK AT MOST 1048576: true; the input reads as it did. -/
def fnExactSizeOfUptoRow : OpenClaim := { program := "ytibcndpadbipmaa", sum := "a7396338088bbb654e697bbeb5f76679ee63eb97166e2c8256f11ae2937b9cff", func := "loop.example/g00592/laws.FnExactSizeOf", spec := "fnExactSizeOf", recurses := true, loops := true, apart := false, narrowed := true }
def FnExactSizeOfUptoSaid : Prop := fnExactSizeOfUptoRow.holds Try.pinned (OpenSpec.upto fnExactSizeOfSpec)

/-- 'laws.FnExactDepthOf', WHERE WHAT IT READS IS OF BULK AT MOST 1048576: true; the input reads as it did. -/
def fnExactDepthOfUptoRow : OpenClaim := { program := "ytibcndpadbipmaa", sum := "a7396338088bbb654e697bbeb5f76679ee63eb97166e2c8256f11ae2937b9cff", func := "loop.example/g00592/laws.FnExactDepthOf", spec := "fnExactDepthOf", recurses := true, loops := true, apart := false, narrowed := true }
def FnExactDepthOfUptoSaid : Prop := fnExactDepthOfUptoRow.holds Try.pinned (OpenSpec.upto fnExactDepthOfSpec)

/-- 'laws.FnExactEqualOptic', WHERE WHAT IT READS IS OF BULK AT MOST 1048576: true; the input reads as it did. -/
def fnExactEqualOpticUptoRow : OpenClaim := { program := "ytibcndpadbipmaa", sum := "a7396338088bbb654e697bbeb5f76679ee63eb97166e2c8256f11ae2937b9cff", func := "loop.example/g00592/laws.FnExactEqualOptic", spec := "fnExactEqualOptic", recurses := true, loops := true, apart := false, narrowed := true }
def FnExactEqualOpticUptoSaid : Prop := fnExactEqualOpticUptoRow.holds Try.pinned (OpenSpec.upto fnExactEqualOpticSpec)

/-- 'laws.FnExactIsOptic', WHERE WHAT IT READS IS OF BULK AT MOST 1048576: true; the input reads as it did. -/
def fnExactIsOpticUptoRow : OpenClaim := { program := "ytibcndpadbipmaa", sum := "a7396338088bbb654e697bbeb5f76679ee63eb97166e2c8256f11ae2937b9cff", func := "loop.example/g00592/laws.FnExactIsOptic", spec := "fnExactIsOptic", recurses := true, loops := true, apart := false, narrowed := true }
def FnExactIsOpticUptoSaid : Prop := fnExactIsOpticUptoRow.holds Try.pinned (OpenSpec.upto fnExactIsOpticSpec)

/-- 'laws.FnExactIsStructural', WHERE WHAT IT READS IS OF BULK AT MOST 1048576: true; the input reads as it did. -/
def fnExactIsStructuralUptoRow : OpenClaim := { program := "ytibcndpadbipmaa", sum := "a7396338088bbb654e697bbeb5f76679ee63eb97166e2c8256f11ae2937b9cff", func := "loop.example/g00592/laws.FnExactIsStructural", spec := "fnExactIsStructural", recurses := true, loops := true, apart := false, narrowed := true }
def FnExactIsStructuralUptoSaid : Prop := fnExactIsStructuralUptoRow.holds Try.pinned (OpenSpec.upto fnExactIsStructuralSpec)

/-- 'laws.FnExactIsPlain', WHERE WHAT IT READS IS OF BULK AT MOST 1048576: true; the input reads as it did. -/
def fnExactIsPlainUptoRow : OpenClaim := { program := "ytibcndpadbipmaa", sum := "a7396338088bbb654e697bbeb5f76679ee63eb97166e2c8256f11ae2937b9cff", func := "loop.example/g00592/laws.FnExactIsPlain", spec := "fnExactIsPlain", recurses := true, loops := true, apart := false, narrowed := true }
def FnExactIsPlainUptoSaid : Prop := fnExactIsPlainUptoRow.holds Try.pinned (OpenSpec.upto fnExactIsPlainSpec)

/-- 'laws.FnOptics', WHERE WHAT IT READS IS OF BULK AT MOST 1048576: true; the input reads as it did. -/
def fnOpticsUptoRow : OpenClaim := { program := "ytibcndpadbipmaa", sum := "a7396338088bbb654e697bbeb5f76679ee63eb97166e2c8256f11ae2937b9cff", func := "loop.example/g00592/laws.FnOptics", spec := "fnOptics", recurses := true, apart := false, narrowed := true }
def FnOpticsUptoSaid : Prop := fnOpticsUptoRow.holds Try.pinned (OpenSpec.upto fnOpticsSpec)

/-- 'laws.FnExactFormatOptic', WHERE WHAT IT READS IS OF BULK AT MOST 1048576: true; the input reads as it did. -/
def fnExactFormatOpticUptoRow : OpenClaim := { program := "ytibcndpadbipmaa", sum := "a7396338088bbb654e697bbeb5f76679ee63eb97166e2c8256f11ae2937b9cff", func := "loop.example/g00592/laws.FnExactFormatOptic", spec := "fnExactFormatOptic", recurses := true, loops := true, apart := false, narrowed := true }
def FnExactFormatOpticUptoSaid : Prop := fnExactFormatOpticUptoRow.holds Try.pinned (OpenSpec.upto fnExactFormatOpticSpec)

/-- 'laws.FnExactParseOptic', WHERE WHAT IT READS IS OF BULK AT MOST 1048576: true; the input reads as it did. -/
def fnExactParseOpticUptoRow : OpenClaim := { program := "ytibcndpadbipmaa", sum := "a7396338088bbb654e697bbeb5f76679ee63eb97166e2c8256f11ae2937b9cff", func := "loop.example/g00592/laws.FnExactParseOptic", spec := "fnExactParseOptic", recurses := true, apart := false, narrowed := true }
def FnExactParseOpticUptoSaid : Prop := fnExactParseOpticUptoRow.holds Try.pinned (OpenSpec.upto fnExactParseOpticSpec)

/-- 'laws.FnOpticText', WHERE WHAT IT READS IS OF BULK AT MOST 1048576: true; the input reads as it did. -/
def fnOpticTextUptoRow : OpenClaim := { program := "ytibcndpadbipmaa", sum := "a7396338088bbb654e697bbeb5f76679ee63eb97166e2c8256f11ae2937b9cff", func := "loop.example/g00592/laws.FnOpticText", spec := "fnOpticText", recurses := true, apart := false, narrowed := true }
def FnOpticTextUptoSaid : Prop := fnOpticTextUptoRow.holds Try.pinned (OpenSpec.upto fnOpticTextSpec)

end Rows
end Go.Proofs.Ytibcndpadbipmaa
