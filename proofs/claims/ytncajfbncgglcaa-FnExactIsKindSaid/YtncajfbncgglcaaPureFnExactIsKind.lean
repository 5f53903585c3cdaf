/- The program's IsKind answers as the reference's, for every int: no condition. -/
import Derived.Test.YtncajfbncgglcaaPFnExactIsKindx1
namespace Go.Proofs.Ytncajfbncgglcaa.Pure
open Go.RowKit Go.Proofs.Ytncajfbncgglcaa.PFnExactIsKind Go.Proofs.YtncajfbncgglcaaW.PrintWords Go.Proofs.YtncajfbncgglcaaW.PrintLast

theorem FnExactIsKind : laws_FnExactIsKind.Pure := by
  intro a _
  simp only [laws_FnExactIsKind.f, spec_IsKind.f, impl_IsKind.f, spec_l1In.f]
  split <;> simp

end Go.Proofs.Ytncajfbncgglcaa.Pure
