/- The program's FociRange answers as the reference's, for every int: no condition. -/
import Derived.Test.YtncajfbncgglcaaPFnExactFociRangex1
namespace Go.Proofs.Ytncajfbncgglcaa.Pure
open Go.RowKit Go.Proofs.Ytncajfbncgglcaa.PFnExactFociRange Go.Proofs.YtncajfbncgglcaaW.PrintWords Go.Proofs.YtncajfbncgglcaaW.PrintLast

theorem FnExactFociRange : laws_FnExactFociRange.Pure := by
  intro a _
  refine ⟨5, ?_⟩
  simp only [laws_FnExactFociRange.f, spec_FociRange.f, impl_FociRange.f, spec_FociRange.j0, spec_FociRange.j1, impl_FociRange.j0, impl_FociRange.j1]
  by_cases h1 : a = 1
  · subst h1; rfl
  by_cases h2 : a = 2
  · subst h2; rfl
  by_cases h3 : a = 3
  · subst h3; rfl
  by_cases h4 : a = 4
  · subst h4; rfl
  by_cases h5 : a = 5
  · subst h5; rfl
  simp [h1, h2, h3, h4, h5]

end Go.Proofs.Ytncajfbncgglcaa.Pure
