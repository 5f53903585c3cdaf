/- The program's KindText answers as the reference's, for every int: no condition. -/
import Derived.Test.YtncajfbncgglcaaPFnExactKindTextx1
namespace Go.Proofs.Ytncajfbncgglcaa.Pure
open Go.RowKit Go.Proofs.Ytncajfbncgglcaa.PFnExactKindText Go.Proofs.YtncajfbncgglcaaW.PrintWords Go.Proofs.YtncajfbncgglcaaW.PrintLast

theorem FnExactKindText : laws_FnExactKindText.Pure := by
  intro a h
  have hs : spec_IsKind.f a = some (decide (1 ≤ a) && decide (a ≤ 5)) := by
    simp only [spec_IsKind.f, spec_l1In.f]
    split <;> simp [*] <;> omega
  have hi : impl_IsKind.f a = some (decide (1 ≤ a) && decide (a ≤ 5)) := by
    simp only [impl_IsKind.f]
    split <;> simp [*] <;> omega
  simp only [laws_FnExactKindText.f, spec_KindText.f, impl_KindText.f, hs, hi, Option.bind_some]
  by_cases hk : 1 ≤ a ∧ a ≤ 5
  · obtain ⟨h1, h2⟩ := hk
    have e : a = 1 ∨ a = 2 ∨ a = 3 ∨ a = 4 ∨ a = 5 := by omega
    rcases e with rfl | rfl | rfl | rfl | rfl <;> simp [wrap64]
  · have : (decide (1 ≤ a) && decide (a ≤ 5)) = false := by simp; omega
    simp [this]

end Go.Proofs.Ytncajfbncgglcaa.Pure
