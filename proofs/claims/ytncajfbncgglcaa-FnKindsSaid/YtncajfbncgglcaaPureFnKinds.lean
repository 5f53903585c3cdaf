/- The join of two drawn kinds is the least kind within which both are, for every code (of at most 2^47 - 4096 bytes). -/
import Derived.Test.YtncajfbncgglcaaXKindsx3
namespace Go.Proofs.Ytncajfbncgglcaa.Pure
open Go.RowKit Go.Proofs.Ytncajfbncgglcaa.XKinds Go.Proofs.YtncajfbncgglcaaW.PrintWords Go.Proofs.YtncajfbncgglcaaW.PrintLast

def isK (a : Int) : Bool := decide (1 ≤ a) && decide (a ≤ 5)
def within (a b : Int) : Bool := isK a && isK b && (decide (a = b) || decide (a = 1) || decide (b = 5) || (decide (b = 4) && decide (a < b)))
def joinK (a b : Int) : Int := if isK a && isK b then (if within a b then b else if within b a then a else 4) else 0

theorem k_impl (a : Int) : impl_IsKind.f a = some (isK a) := by
  simp only [impl_IsKind.f, isK]
  split <;> simp [*] <;> omega
theorem k_spec (a : Int) : spec_IsKind.f a = some (isK a) := by
  simp only [spec_IsKind.f, spec_l1In.f, isK]
  split <;> simp [*] <;> omega
theorem isK_cases {a : Int} (h : isK a = true) : a = 1 ∨ a = 2 ∨ a = 3 ∨ a = 4 ∨ a = 5 := by
  simp [isK] at h; omega
theorem w_spec (a b : Int) : spec_IsWithin.f a b = some (within a b) := by
  simp only [spec_IsWithin.f, k_spec, within, Option.bind_some]
  cases h : isK a
  · simp
  cases h' : isK b
  · simp
  rcases isK_cases h with rfl | rfl | rfl | rfl | rfl <;> rcases isK_cases h' with rfl | rfl | rfl | rfl | rfl <;> rfl
theorem w_impl (k : Nat) (a b : Int) : impl_IsWithin.f (k + 2) a b = some (within a b) := by
  simp only [impl_IsWithin.f, k_impl, within, Option.bind_some, impl_IsWithin.j0, impl_IsWithin.j1]
  cases h : isK a
  · simp
  cases h' : isK b
  · simp
  rcases isK_cases h with rfl | rfl | rfl | rfl | rfl <;> rcases isK_cases h' with rfl | rfl | rfl | rfl | rfl <;> rfl
theorem j_spec (k : Nat) (a b : Int) : spec_JoinKinds.f (k + 1) a b = some (joinK a b) := by
  simp only [spec_JoinKinds.f, spec_JoinKinds.j0, k_spec, w_spec, joinK, Option.bind_some]
  cases isK a <;> cases isK b <;> simp
  cases within a b <;> cases within b a <;> simp
theorem j_impl (k : Nat) (a b : Int) : impl_JoinKinds.f (k + 3) a b = some (joinK a b) := by
  simp only [impl_JoinKinds.f, impl_JoinKinds.j0, k_impl, w_impl, joinK, Option.bind_some]
  cases isK a <;> cases isK b <;> simp
  cases within a b <;> cases within b a <;> simp
theorem t_same (a : Int) : ∃ s, impl_KindText.f a = some s ∧ spec_KindText.f a = some s := by
  simp only [spec_KindText.f, impl_KindText.f, k_impl, k_spec, Option.bind_some]
  cases h : isK a
  · exact ⟨_, by simp; rfl, by simp⟩
  · rcases isK_cases h with rfl | rfl | rfl | rfl | rfl <;> exact ⟨_, by simp [wrap64]; rfl, by simp [wrap64]⟩
theorem f_same (k : Nat) (a : Int) : ∃ r, impl_FociRange.f (k + 2) a = some r ∧ spec_FociRange.f (k + 2) a = some r := by
  simp only [spec_FociRange.f, impl_FociRange.f, spec_FociRange.j0, spec_FociRange.j1, impl_FociRange.j0, impl_FociRange.j1]
  by_cases h1 : a = 1
  · subst h1; exact ⟨_, rfl, rfl⟩
  by_cases h2 : a = 2
  · subst h2; exact ⟨_, rfl, rfl⟩
  by_cases h3 : a = 3
  · subst h3; exact ⟨_, rfl, rfl⟩
  by_cases h4 : a = 4
  · subst h4; exact ⟨_, rfl, rfl⟩
  by_cases h5 : a = 5
  · subst h5; exact ⟨_, rfl, rfl⟩
  exact ⟨(0, 0), by simp [h1, h2, h3, h4, h5], by simp [h1, h2, h3, h4, h5]⟩

/-! what is drawn: any two numbers, and a third -/
theorem new_any (l : List Int) (hl : l.length * 1 ≤ 140737488351232) (d : Nat) : ∀ (k : Nat) (h i : Int), 0 ≤ i → i + d = l.length → d < k → ∃ z, spec_l1New.l0 k l h i = some (l, 0, z) := by
  induction d with
  | zero =>
    intro k h i h0 h1 hk
    obtain ⟨k, rfl⟩ : ∃ m, k = m + 1 := ⟨k - 1, by omega⟩
    simp only [spec_l1New.l0]
    rw [if_neg (by omega)]
    exact ⟨_, rfl⟩
  | succ d ih =>
    intro k h i h0 h1 hk
    obtain ⟨k, rfl⟩ : ∃ m, k = m + 1 := ⟨k - 1, by omega⟩
    simp only [spec_l1New.l0]
    rw [if_pos (by omega)]
    have e : wrap64 (i + 1) = i + 1 := by unfold wrap64; omega
    by_cases h4 : i < 4000
    · rw [if_pos h4, if_pos h0, e]
      exact ih k _ (i + 1) (by omega) (by omega) (by omega)
    · rw [if_neg h4]
      exact ⟨_, rfl⟩
theorem byte_any (l : List Int) (i h : Int) (h0 : 0 ≤ i) (hi : i ≤ l.length) (hl : l.length * 1 ≤ 140737488351232) : ∃ x j z, spec_l1Byte.f l i h = some (x, j, z) ∧ 0 ≤ j ∧ j ≤ l.length := by
  simp only [spec_l1Byte.f]
  by_cases h4 : i < (l.length : Int)
  · have e : wrap64 (i + 1) = i + 1 := by unfold wrap64; omega
    rw [if_pos h4, if_pos h0, e]
    exact ⟨_, _, _, rfl, by omega, by omega⟩
  · rw [if_neg h4]
    exact ⟨_, _, _, rfl, h0, hi⟩
theorem below_any (l : List Int) (i h : Int) (h0 : 0 ≤ i) (hi : i ≤ l.length) (hl : l.length * 1 ≤ 140737488351232) : ∃ x j z, spec_l1Below.f l i h 8 = some (x, j, z) ∧ 0 ≤ j ∧ j ≤ l.length := by
  obtain ⟨x, j, z, e, h1, h2⟩ := byte_any l i h h0 hi hl
  refine ⟨Int.tmod x 8, j, z, ?_, h1, h2⟩
  simp only [spec_l1Below.f]
  rw [if_neg (by omega), if_pos (by omega), e]
  simp only [Option.bind_some]
  rw [if_neg (by omega)]
theorem two_any (l : List Int) (hl : l.length * 1 ≤ 140737488351232) (k : Nat) (hk : l.length < k) : ∃ a b, spec_DrawJoinKinds.f k l = some (a, b) := by
  obtain ⟨z, hz⟩ := new_any l hl l.length k (wrap64 (26583 + (l.length : Int))) 0 (by omega) (by omega) hk
  obtain ⟨x, j, y, e, h1, h2⟩ := below_any l 0 z (by omega) (by omega) hl
  obtain ⟨x', j', y', e', h1', h2'⟩ := below_any l j y h1 h2 hl
  refine ⟨wrap64 (x - 1), wrap64 (x' - 1), ?_⟩
  simp only [spec_DrawJoinKinds.f, spec_l9Two.f, spec_l1New.f]
  rw [hz]
  simp only [Option.bind_some]
  rw [e]
  simp only [Option.bind_some]
  rw [e']
  simp only [Option.bind_some]
theorem one_any (l : List Int) (hl : l.length * 1 ≤ 140737488351232) (k : Nat) (hk : l.length < k) : ∃ a, spec_DrawKindText.f k l = some a := by
  obtain ⟨z, hz⟩ := new_any l hl l.length k (wrap64 (26583 + (l.length : Int))) 0 (by omega) (by omega) hk
  obtain ⟨x, j, y, e, h1, h2⟩ := below_any l 0 z (by omega) (by omega) hl
  refine ⟨wrap64 (x - 1), ?_⟩
  simp only [spec_DrawKindText.f, spec_l1New.f]
  rw [hz]
  simp only [Option.bind_some]
  rw [e]
  simp only [Option.bind_some]

theorem join_comm (a b : Int) : joinK a b = joinK b a := by
  unfold joinK
  cases h : isK a <;> cases h' : isK b <;> simp
  rcases isK_cases h with rfl | rfl | rfl | rfl | rfl <;> rcases isK_cases h' with rfl | rfl | rfl | rfl | rfl <;> rfl

/-- The law's end, for kinds. -/
theorem end_law (k : Nat) (a b c : Int) : laws_FnKinds.j0 (k + 9) a b c (joinK a b) false = some true := by
  simp only [laws_FnKinds.j0, laws_FnKinds.j1, laws_FnKinds.j2, k_impl, w_impl, Option.bind_some]
  cases h : isK a
  · simp [joinK, h]
  cases h' : isK b
  · simp [joinK, h']
  cases h2 : isK c
  · rcases isK_cases h with rfl | rfl | rfl | rfl | rfl <;> rcases isK_cases h' with rfl | rfl | rfl | rfl | rfl <;> rfl
  · rcases isK_cases h with rfl | rfl | rfl | rfl | rfl <;> rcases isK_cases h' with rfl | rfl | rfl | rfl | rfl <;> rcases isK_cases h2 with rfl | rfl | rfl | rfl | rfl <;> rfl

theorem FnKinds : laws_FnKinds.Pure := by
  intro l _ hl _
  obtain ⟨a, b, e1⟩ := two_any l hl (l.length + 20) (by omega)
  obtain ⟨c, e2⟩ := one_any l hl (l.length + 20) (by omega)
  obtain ⟨s, s1, s2⟩ := t_same c
  obtain ⟨r, r1, r2⟩ := f_same (l.length + 18) c
  refine ⟨l.length + 20, ?_⟩
  unfold laws_FnKinds.f laws_big.f
  simp only [Option.bind_some]
  by_cases hb : (l.length : Int) > 1048576
  · simp [hb]
  have j1 := fun x y => j_impl (l.length + 17) x y
  have j2 := fun x y => j_spec (l.length + 19) x y
  have w1 := fun x y => w_impl (l.length + 18) x y
  have en := end_law (l.length + 11) a b c
  rw [e1, e2]
  simp only [Option.bind_some, hb, decide_false, Bool.false_eq_true, if_false, j1, j2, w1, w_spec, k_impl, k_spec, r1, r2, s1, s2, if_true, bne_self_eq_false]
  rw [join_comm b a]
  simpa using en

end Go.Proofs.Ytncajfbncgglcaa.Pure
