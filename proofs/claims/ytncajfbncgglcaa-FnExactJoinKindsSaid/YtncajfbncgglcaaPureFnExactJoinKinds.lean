/- The program's JoinKinds answers as the reference's, for every two ints: no condition. -/
import Derived.Test.YtncajfbncgglcaaPFnExactJoinKindsx1
namespace Go.Proofs.Ytncajfbncgglcaa.Pure
open Go.RowKit Go.Proofs.Ytncajfbncgglcaa.PFnExactJoinKinds Go.Proofs.YtncajfbncgglcaaW.PrintWords Go.Proofs.YtncajfbncgglcaaW.PrintLast

theorem FnExactJoinKinds : laws_FnExactJoinKinds.Pure := by
  intro a b _ _
  refine ⟨9, ?_⟩
  simp only [laws_FnExactJoinKinds.f, spec_JoinKinds.f, impl_JoinKinds.f, spec_JoinKinds.j0, impl_JoinKinds.j0, spec_IsWithin.f, impl_IsWithin.f, impl_IsWithin.j0, impl_IsWithin.j1, spec_IsKind.f, impl_IsKind.f, spec_l1In.f]
  by_cases ha : 1 ≤ a ∧ a ≤ 5 <;> by_cases hb : 1 ≤ b ∧ b ≤ 5
  · obtain ⟨h1, h2⟩ := ha
    obtain ⟨h3, h4⟩ := hb
    have e : a = 1 ∨ a = 2 ∨ a = 3 ∨ a = 4 ∨ a = 5 := by omega
    have e' : b = 1 ∨ b = 2 ∨ b = 3 ∨ b = 4 ∨ b = 5 := by omega
    rcases e with rfl | rfl | rfl | rfl | rfl <;> rcases e' with rfl | rfl | rfl | rfl | rfl <;> rfl
  all_goals
    by_cases h1 : a ≥ 1 <;> by_cases h2 : a ≤ 5 <;> by_cases h3 : b ≥ 1 <;> by_cases h4 : b ≤ 5 <;> first | (exfalso; omega) | simp [h1, h2, h3, h4]

end Go.Proofs.Ytncajfbncgglcaa.Pure
