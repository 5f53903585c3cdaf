/-
  NARROWER THAN 'FOR EVERY INPUT', by the rows' own cells (each row's printed sentence says how): FnExactSizeOfType: loops · FnExactDepthOfType: loops · FnExactEqualType: loops · FnExactIsValidType: loops · FnExactIsUniform: loops · FnExactFormatType: loops · FnExactPartType: loops.
  DERIVED. THE GIVEN ROWS OF THIS SEAT. 10 by the template 'for every input the law returns true; each argument reads behind the call as it read before'; 0 by the template 'total and deterministic' (their statements: YtingaflikkeefaaTotals.lean).
  GIVEN WITH THE SEED: the statements are not yours to turn. If you find one false, say at which input.
  Laid BY PROGRAM, IN A SANDBOX (cutbox-rows.mjs): the forced cells as the released guide's own fill.sh prints them over the translation deb4d8e5481f22b2… (all of the seat's roots in one cut). By AI agents, Wed Nov 11 2026. No macro, syntax, notation, axiom, sorry.
-/
import Derived.Test.YtingaflikkeefaaChecked
import GoSem.Claim
import GoSem.ClaimJoined
import GoSem.ClaimMapViews
import Derived.JoinedTies
import Derived.KernelRfl
namespace Go.Proofs.Ytingaflikkeefaa
/- THE CELL 'sum', in the pinned program and in every row, IS THE sha256 OF THE DUMP (.gsa) THAT YtingaflikkeefaaProg.lean LOADS. Nothing in Lean hashes anything: it is a label: what it is worth is what the hold of that sum in a sandbox is worth. -/
noncomputable def Try.pinned : Pinned := { name := "ytingaflikkeefaa", sum := "deb4d8e5481f22b2ee48c2a9fa4e71384afc238fc40892eaa294ec9463897dcd", checked := Try.checked }
namespace Rows
def none {H : Type} : Left H := { results := [], args := [] }

/-- 'laws.FnExactSizeOfType': WHATEVER THE INPUT: true; the input reads as it did. -/
def fnExactSizeOfTypeSpec : ChangeSpec := { name := "fnExactSizeOfType", fn := fun _ => fun
  | [d] => { results := [.lit (.bool true)], args := [d] }
  | _ => none }
def fnExactSizeOfTypeRow : OpenClaim := { program := "ytingaflikkeefaa", sum := "deb4d8e5481f22b2ee48c2a9fa4e71384afc238fc40892eaa294ec9463897dcd", func := "loop.example/g00592/laws.FnExactSizeOfType", spec := "fnExactSizeOfType", recurses := true, loops := true, apart := false }
def FnExactSizeOfTypeSaid : Prop := fnExactSizeOfTypeRow.holds Try.pinned (OpenSpec.ofChange fnExactSizeOfTypeSpec)

/-- ITS FALSE NEIGHBOUR: 'it returns false'. Refute it at one input. -/
def fnExactSizeOfTypeWrong : ChangeSpec := { name := "fnExactSizeOfType", fn := fun _ => fun
  | [d] => { results := [.lit (.bool false)], args := [d] }
  | _ => none }
def FnExactSizeOfTypeWrongFalsely : Prop := fnExactSizeOfTypeRow.holds Try.pinned (OpenSpec.ofChange fnExactSizeOfTypeWrong)

/-- 'laws.FnExactDepthOfType': WHATEVER THE INPUT: true; the input reads as it did. -/
def fnExactDepthOfTypeSpec : ChangeSpec := { name := "fnExactDepthOfType", fn := fun _ => fun
  | [d] => { results := [.lit (.bool true)], args := [d] }
  | _ => none }
def fnExactDepthOfTypeRow : OpenClaim := { program := "ytingaflikkeefaa", sum := "deb4d8e5481f22b2ee48c2a9fa4e71384afc238fc40892eaa294ec9463897dcd", func := "loop.example/g00592/laws.FnExactDepthOfType", spec := "fnExactDepthOfType", recurses := true, loops := true, apart := false }
def FnExactDepthOfTypeSaid : Prop := fnExactDepthOfTypeRow.holds Try.pinned (OpenSpec.ofChange fnExactDepthOfTypeSpec)

/-- ITS FALSE NEIGHBOUR: 'it returns false'. Refute it at one input. -/
def fnExactDepthOfTypeWrong : ChangeSpec := { name := "fnExactDepthOfType", fn := fun _ => fun
  | [d] => { results := [.lit (.bool false)], args := [d] }
  | _ => none }
def FnExactDepthOfTypeWrongFalsely : Prop := fnExactDepthOfTypeRow.holds Try.pinned (OpenSpec.ofChange fnExactDepthOfTypeWrong)

/-- 'laws.FnExactEqualType': WHATEVER THE INPUT: true; the input reads as it did. -/
def fnExactEqualTypeSpec : ChangeSpec := { name := "fnExactEqualType", fn := fun _ => fun
  | [d1, d2] => { results := [.lit (.bool true)], args := [d1, d2] }
  | _ => none }
def fnExactEqualTypeRow : OpenClaim := { program := "ytingaflikkeefaa", sum := "deb4d8e5481f22b2ee48c2a9fa4e71384afc238fc40892eaa294ec9463897dcd", func := "loop.example/g00592/laws.FnExactEqualType", spec := "fnExactEqualType", recurses := true, loops := true, apart := false }
def FnExactEqualTypeSaid : Prop := fnExactEqualTypeRow.holds Try.pinned (OpenSpec.ofChange fnExactEqualTypeSpec)

/-- ITS FALSE NEIGHBOUR: 'it returns false'. Refute it at one input. -/
def fnExactEqualTypeWrong : ChangeSpec := { name := "fnExactEqualType", fn := fun _ => fun
  | [d1, d2] => { results := [.lit (.bool false)], args := [d1, d2] }
  | _ => none }
def FnExactEqualTypeWrongFalsely : Prop := fnExactEqualTypeRow.holds Try.pinned (OpenSpec.ofChange fnExactEqualTypeWrong)

/-- 'laws.FnExactIsValidType': WHATEVER THE INPUT: true; the input reads as it did. -/
def fnExactIsValidTypeSpec : ChangeSpec := { name := "fnExactIsValidType", fn := fun _ => fun
  | [d] => { results := [.lit (.bool true)], args := [d] }
  | _ => none }
def fnExactIsValidTypeRow : OpenClaim := { program := "ytingaflikkeefaa", sum := "deb4d8e5481f22b2ee48c2a9fa4e71384afc238fc40892eaa294ec9463897dcd", func := "loop.example/g00592/laws.FnExactIsValidType", spec := "fnExactIsValidType", recurses := true, loops := true, apart := false }
def FnExactIsValidTypeSaid : Prop := fnExactIsValidTypeRow.holds Try.pinned (OpenSpec.ofChange fnExactIsValidTypeSpec)

/-- ITS FALSE NEIGHBOUR: 'it returns false'. Refute it at one input. -/
def fnExactIsValidTypeWrong : ChangeSpec := { name := "fnExactIsValidType", fn := fun _ => fun
  | [d] => { results := [.lit (.bool false)], args := [d] }
  | _ => none }
def FnExactIsValidTypeWrongFalsely : Prop := fnExactIsValidTypeRow.holds Try.pinned (OpenSpec.ofChange fnExactIsValidTypeWrong)

/-- 'laws.FnExactIsUniform': WHATEVER THE INPUT: true; the input reads as it did. -/
def fnExactIsUniformSpec : ChangeSpec := { name := "fnExactIsUniform", fn := fun _ => fun
  | [d] => { results := [.lit (.bool true)], args := [d] }
  | _ => none }
def fnExactIsUniformRow : OpenClaim := { program := "ytingaflikkeefaa", sum := "deb4d8e5481f22b2ee48c2a9fa4e71384afc238fc40892eaa294ec9463897dcd", func := "loop.example/g00592/laws.FnExactIsUniform", spec := "fnExactIsUniform", recurses := true, loops := true, apart := false }
def FnExactIsUniformSaid : Prop := fnExactIsUniformRow.holds Try.pinned (OpenSpec.ofChange fnExactIsUniformSpec)

/-- ITS FALSE NEIGHBOUR: 'it returns false'. Refute it at one input. -/
def fnExactIsUniformWrong : ChangeSpec := { name := "fnExactIsUniform", fn := fun _ => fun
  | [d] => { results := [.lit (.bool false)], args := [d] }
  | _ => none }
def FnExactIsUniformWrongFalsely : Prop := fnExactIsUniformRow.holds Try.pinned (OpenSpec.ofChange fnExactIsUniformWrong)

/-- 'laws.FnExactFormatType': WHATEVER THE INPUT: true; the input reads as it did. -/
def fnExactFormatTypeSpec : ChangeSpec := { name := "fnExactFormatType", fn := fun _ => fun
  | [d] => { results := [.lit (.bool true)], args := [d] }
  | _ => none }
def fnExactFormatTypeRow : OpenClaim := { program := "ytingaflikkeefaa", sum := "deb4d8e5481f22b2ee48c2a9fa4e71384afc238fc40892eaa294ec9463897dcd", func := "loop.example/g00592/laws.FnExactFormatType", spec := "fnExactFormatType", recurses := true, loops := true, apart := false }
def FnExactFormatTypeSaid : Prop := fnExactFormatTypeRow.holds Try.pinned (OpenSpec.ofChange fnExactFormatTypeSpec)

/-- ITS FALSE NEIGHBOUR: 'it returns false'. Refute it at one input. -/
def fnExactFormatTypeWrong : ChangeSpec := { name := "fnExactFormatType", fn := fun _ => fun
  | [d] => { results := [.lit (.bool false)], args := [d] }
  | _ => none }
def FnExactFormatTypeWrongFalsely : Prop := fnExactFormatTypeRow.holds Try.pinned (OpenSpec.ofChange fnExactFormatTypeWrong)

/-- 'laws.FnTypes': WHATEVER THE INPUT: true; the input reads as it did. -/
def fnTypesSpec : ChangeSpec := { name := "fnTypes", fn := fun _ => fun
  | [d] => { results := [.lit (.bool true)], args := [d] }
  | _ => none }
def fnTypesRow : OpenClaim := { program := "ytingaflikkeefaa", sum := "deb4d8e5481f22b2ee48c2a9fa4e71384afc238fc40892eaa294ec9463897dcd", func := "loop.example/g00592/laws.FnTypes", spec := "fnTypes", recurses := true, apart := false }
def FnTypesSaid : Prop := fnTypesRow.holds Try.pinned (OpenSpec.ofChange fnTypesSpec)

/-- ITS FALSE NEIGHBOUR: 'it returns false'. Refute it at one input. -/
def fnTypesWrong : ChangeSpec := { name := "fnTypes", fn := fun _ => fun
  | [d] => { results := [.lit (.bool false)], args := [d] }
  | _ => none }
def FnTypesWrongFalsely : Prop := fnTypesRow.holds Try.pinned (OpenSpec.ofChange fnTypesWrong)

/-- 'laws.FnExactPartType': WHATEVER THE INPUT: true; the input reads as it did. -/
def fnExactPartTypeSpec : ChangeSpec := { name := "fnExactPartType", fn := fun _ => fun
  | [d1, d2] => { results := [.lit (.bool true)], args := [d1, d2] }
  | _ => none }
def fnExactPartTypeRow : OpenClaim := { program := "ytingaflikkeefaa", sum := "deb4d8e5481f22b2ee48c2a9fa4e71384afc238fc40892eaa294ec9463897dcd", func := "loop.example/g00592/laws.FnExactPartType", spec := "fnExactPartType", recurses := true, loops := true, apart := false }
def FnExactPartTypeSaid : Prop := fnExactPartTypeRow.holds Try.pinned (OpenSpec.ofChange fnExactPartTypeSpec)

/-- ITS FALSE NEIGHBOUR: 'it returns false'. Refute it at one input. -/
def fnExactPartTypeWrong : ChangeSpec := { name := "fnExactPartType", fn := fun _ => fun
  | [d1, d2] => { results := [.lit (.bool false)], args := [d1, d2] }
  | _ => none }
def FnExactPartTypeWrongFalsely : Prop := fnExactPartTypeRow.holds Try.pinned (OpenSpec.ofChange fnExactPartTypeWrong)

/-- 'laws.FnExactParseType': WHATEVER THE INPUT: true; the input reads as it did. -/
def fnExactParseTypeSpec : ChangeSpec := { name := "fnExactParseType", fn := fun _ => fun
  | [d] => { results := [.lit (.bool true)], args := [d] }
  | _ => none }
def fnExactParseTypeRow : OpenClaim := { program := "ytingaflikkeefaa", sum := "deb4d8e5481f22b2ee48c2a9fa4e71384afc238fc40892eaa294ec9463897dcd", func := "loop.example/g00592/laws.FnExactParseType", spec := "fnExactParseType", recurses := true, apart := false }
def FnExactParseTypeSaid : Prop := fnExactParseTypeRow.holds Try.pinned (OpenSpec.ofChange fnExactParseTypeSpec)

/-- ITS FALSE NEIGHBOUR: 'it returns false'. Refute it at one input. -/
def fnExactParseTypeWrong : ChangeSpec := { name := "fnExactParseType", fn := fun _ => fun
  | [d] => { results := [.lit (.bool false)], args := [d] }
  | _ => none }
def FnExactParseTypeWrongFalsely : Prop := fnExactParseTypeRow.holds Try.pinned (OpenSpec.ofChange fnExactParseTypeWrong)

/-- 'laws.FnTypeText': WHATEVER THE INPUT: true; the input reads as it did. -/
def fnTypeTextSpec : ChangeSpec := { name := "fnTypeText", fn := fun _ => fun
  | [d] => { results := [.lit (.bool true)], args := [d] }
  | _ => none }
def fnTypeTextRow : OpenClaim := { program := "ytingaflikkeefaa", sum := "deb4d8e5481f22b2ee48c2a9fa4e71384afc238fc40892eaa294ec9463897dcd", func := "loop.example/g00592/laws.FnTypeText", spec := "fnTypeText", recurses := true, apart := false }
def FnTypeTextSaid : Prop := fnTypeTextRow.holds Try.pinned (OpenSpec.ofChange fnTypeTextSpec)

/-- ITS FALSE NEIGHBOUR: 'it returns false'. Refute it at one input. -/
def fnTypeTextWrong : ChangeSpec := { name := "fnTypeText", fn := fun _ => fun
  | [d] => { results := [.lit (.bool false)], args := [d] }
  | _ => none }
def FnTypeTextWrongFalsely : Prop := fnTypeTextRow.holds Try.pinned (OpenSpec.ofChange fnTypeTextWrong)

/- THE SECOND FORM. 'bulk': how many values and letters a reading holds, each counted each time it is reached (what is shared counts as often as it is met; a slice's spare places count too). A statement '..UptoSaid' is the law's where the arguments, and the package variables that the reading takes, are together of bulk at most 1048576: NARROWER than '..Said'. Prove '..Said' where nothing that the law and all that it calls make is longer than what came in: it says more and counts as full. Else prove '..UptoSaid'. A law counts once. -/
mutual
def uptoBulk {H : Type} : DataW H → Nat
  | .lit (.string bytes) => bytes.length + 1
  | .lit _ => 1
  | .nil => 1
  | .ptr d => uptoBulk d + 1
  | .slice elems spare => uptoBulkAll elems + uptoBulkAll spare + 1
  | .agg parts => uptoBulkAll parts + 1
  | .iface _ d => uptoBulk d + 1
  | .map entries => uptoBulkEntries entries + 1
  | .held _ => 1
def uptoBulkAll {H : Type} : List (DataW H) → Nat
  | [] => 0
  | d :: r => uptoBulk d + uptoBulkAll r
def uptoBulkEntries {H : Type} : List (Lit × DataW H) → Nat
  | [] => 0
  | x :: r => uptoBulkEntry x + uptoBulkEntries r
def uptoBulkEntry {H : Type} : Lit × DataW H → Nat
  | (.string bytes, d) => bytes.length + uptoBulk d + 1
  | (_, d) => uptoBulk d + 1
 end
def uptoSmall : (H : Type) → List (DataW H) → Bool := fun _ ds => decide (uptoBulkAll ds ≤ 1048576)
def OpenSpec.upto (s : _root_.Go.ChangeSpec) : _root_.Go.OpenSpec := { _root_.Go.OpenSpec.ofChange s with cond := some uptoSmall }

/-- 'laws.FnExactSizeOfType', WHERE WHAT IT READS IS OF BULK AT MOST 1048576: true; the input reads as it did. -/
def fnExactSizeOfTypeUptoRow : OpenClaim := { program := "ytingaflikkeefaa", sum := "deb4d8e5481f22b2ee48c2a9fa4e71384afc238fc40892eaa294ec9463897dcd", func := "loop.example/g00592/laws.FnExactSizeOfType", spec := "fnExactSizeOfType", recurses := true, loops := true, apart := false, narrowed := true }
def FnExactSizeOfTypeUptoSaid : Prop := fnExactSizeOfTypeUptoRow.holds Try.pinned (OpenSpec.upto fnExactSizeOfTypeSpec)

/-- 'laws.FnExactDepthOfType', WHERE WHAT IT READS IS OF BULK AT MOST 1048576: true; the input reads as it did. -/
def fnExactDepthOfTypeUptoRow : OpenClaim := { program := "ytingaflikkeefaa", sum := "deb4d8e5481f22b2ee48c2a9fa4e71384afc238fc40892eaa294ec9463897dcd", func := "loop.example/g00592/laws.FnExactDepthOfType", spec := "fnExactDepthOfType", recurses := true, loops := true, apart := false, narrowed := true }
def FnExactDepthOfTypeUptoSaid : Prop := fnExactDepthOfTypeUptoRow.holds Try.pinned (OpenSpec.upto fnExactDepthOfTypeSpec)

/-- 'laws.FnExactEqualType', WHERE WHAT IT READS IS OF BULK AT MOST 1048576: true; the input reads as it did. -/
def fnExactEqualTypeUptoRow : OpenClaim := { program := "ytingaflikkeefaa", sum := "deb4d8e5481f22b2ee48c2a9fa4e71384afc238fc40892eaa294ec9463897dcd", func := "loop.example/g00592/laws.FnExactEqualType", spec := "fnExactEqualType", recurses := true, loops := true, apart := false, narrowed := true }
def FnExactEqualTypeUptoSaid : Prop := fnExactEqualTypeUptoRow.holds Try.pinned (OpenSpec.upto fnExactEqualTypeSpec)

/-- 'laws.FnExactIsValidType', WHERE WHAT IT READS IS OF BULK AT MOST 1048576: true; the input reads as it did. -/
def fnExactIsValidTypeUptoRow : OpenClaim := { program := "ytingaflikkeefaa", sum := "deb4d8e5481f22b2ee48c2a9fa4e71384afc238fc40892eaa294ec9463897dcd", func := "loop.example/g00592/laws.FnExactIsValidType", spec := "fnExactIsValidType", recurses := true, loops := true, apart := false, narrowed := true }
def FnExactIsValidTypeUptoSaid : Prop := fnExactIsValidTypeUptoRow.holds Try.pinned (OpenSpec.upto fnExactIsValidTypeSpec)

/-- 'laws.FnExactIsUniform', WHERE WHAT IT READS IS OF BULK AT MOST 1048576: true; the input reads as it did. -/
def fnExactIsUniformUptoRow : OpenClaim := { program := "ytingaflikkeefaa", sum := "deb4d8e5481f22b2ee48c2a9fa4e71384afc238fc40892eaa294ec9463897dcd", func := "loop.example/g00592/laws.FnExactIsUniform", spec := "fnExactIsUniform", recurses := true, loops := true, apart := false, narrowed := true }
def FnExactIsUniformUptoSaid : Prop := fnExactIsUniformUptoRow.holds Try.pinned (OpenSpec.upto fnExactIsUniformSpec)

/-- 'laws.FnExactFormatType', WHERE WHAT IT READS IS OF BULK AT MOST 1048576: true; the input reads as it did. -/
def fnExactFormatTypeUptoRow : OpenClaim := { program := "ytingaflikkeefaa", sum := "deb4d8e5481f22b2ee48c2a9fa4e71384afc238fc40892eaa294ec9463897dcd", func := "loop.example/g00592/laws.FnExactFormatType", spec := "fnExactFormatType", recurses := true, loops := true, apart := false, narrowed := true }
def FnExactFormatTypeUptoSaid : Prop := fnExactFormatTypeUptoRow.holds Try.pinned (OpenSpec.upto fnExactFormatTypeSpec)

/-- 'laws.FnTypes', WHERE WHAT IT READS IS OF BULK AT MOST 1048576: true; the input reads as it did. -/
def fnTypesUptoRow : OpenClaim := { program := "ytingaflikkeefaa", sum := "deb4d8e5481f22b2ee48c2a9fa4e71384afc238fc40892eaa294ec9463897dcd", func := "loop.example/g00592/laws.FnTypes", spec := "fnTypes", recurses := true, apart := false, narrowed := true }
def FnTypesUptoSaid : Prop := fnTypesUptoRow.holds Try.pinned (OpenSpec.upto fnTypesSpec)

/-- 'laws.FnExactPartType', WHERE WHAT IT READS IS OF BULK AT MOST 1048576: true; the input reads as it did. -/
def fnExactPartTypeUptoRow : OpenClaim := { program := "ytingaflikkeefaa", sum := "deb4d8e5481f22b2ee48c2a9fa4e71384afc238fc40892eaa294ec9463897dcd", func := "loop.example/g00592/laws.FnExactPartType", spec := "fnExactPartType", recurses := true, loops := true, apart := false, narrowed := true }
def FnExactPartTypeUptoSaid : Prop := fnExactPartTypeUptoRow.holds Try.pinned (OpenSpec.upto fnExactPartTypeSpec)

/-- 'laws.FnExactParseType', WHERE WHAT IT READS IS OF BULK AT MOST 1048576: true; the input reads as it did. -/
def fnExactParseTypeUptoRow : OpenClaim := { program := "ytingaflikkeefaa", sum := "deb4d8e5481f22b2ee48c2a9fa4e71384afc238fc40892eaa294ec9463897dcd", func := "loop.example/g00592/laws.FnExactParseType", spec := "fnExactParseType", recurses := true, apart := false, narrowed := true }
def FnExactParseTypeUptoSaid : Prop := fnExactParseTypeUptoRow.holds Try.pinned (OpenSpec.upto fnExactParseTypeSpec)

/-- 'laws.FnTypeText', WHERE WHAT IT READS IS OF BULK AT MOST 1048576: true; the input reads as it did. -/
def fnTypeTextUptoRow : OpenClaim := { program := "ytingaflikkeefaa", sum := "deb4d8e5481f22b2ee48c2a9fa4e71384afc238fc40892eaa294ec9463897dcd", func := "loop.example/g00592/laws.FnTypeText", spec := "fnTypeText", recurses := true, apart := false, narrowed := true }
def FnTypeTextUptoSaid : Prop := fnTypeTextUptoRow.holds Try.pinned (OpenSpec.upto fnTypeTextSpec)

end Rows
end Go.Proofs.Ytingaflikkeefaa
