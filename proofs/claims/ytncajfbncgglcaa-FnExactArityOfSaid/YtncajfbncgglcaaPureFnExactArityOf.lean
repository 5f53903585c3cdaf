/- The program's ArityOf answers as the reference's, for every int: no condition. -/
import Derived.Test.YtncajfbncgglcaaPFnExactArityOfx1
namespace Go.Proofs.Ytncajfbncgglcaa.Pure
open Go.RowKit Go.Proofs.Ytncajfbncgglcaa.PFnExactArityOf Go.Proofs.YtncajfbncgglcaaW.PrintWords Go.Proofs.YtncajfbncgglcaaW.PrintLast

theorem FnExactArityOf : laws_FnExactArityOf.Pure := by
  intro a _
  refine ⟨5, ?_⟩
  simp only [laws_FnExactArityOf.f, spec_ArityOf.f, impl_ArityOf.f, spec_ArityOf.j0, impl_ArityOf.j0, spec_l1In.f]
  by_cases h1 : a = 11
  · subst h1; rfl
  by_cases h2 : a = 12
  · subst h2; rfl
  by_cases h3 : a = 13
  · subst h3; rfl
  by_cases h4 : a < 1
  · have h5 : ¬ a ≥ 1 := by omega
    simp [h1, h2, h3, h4, h5]
  · have h5 : a ≥ 1 := by omega
    by_cases h6 : a > 13
    · have h7 : ¬ a ≤ 10 := by omega
      simp [h1, h2, h3, h4, h5, h6, h7]
    · have h7 : a ≤ 10 := by omega
      simp [h1, h2, h3, h4, h5, h6, h7]

end Go.Proofs.Ytncajfbncgglcaa.Pure
