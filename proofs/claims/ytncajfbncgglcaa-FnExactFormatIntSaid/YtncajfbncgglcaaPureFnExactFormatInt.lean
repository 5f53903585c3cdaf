/- The program's FormatInt answers as the reference's, for every int: no condition. -/
import Derived.Test.YtncajfbncgglcaaXFIx1
namespace Go.Proofs.Ytncajfbncgglcaa.Pure
open Go.RowKit Go.Proofs.Ytncajfbncgglcaa.XFI Go.Proofs.YtncajfbncgglcaaW.PrintWords Go.Proofs.YtncajfbncgglcaaW.PrintLast

set_option linter.unusedSimpArgs false
set_option linter.unusedVariables false

/-- The figures of a number. -/
def dgs (n : Nat) : ByteArray := if n < 10 then strOfNums [48 + (n : Int)] else dgs (n / 10) ++ strOfNums [48 + ((n % 10 : Nat) : Int)]
termination_by n
decreasing_by omega

/-- The figures of a number; none of nought. -/
def dg0 (n : Nat) : ByteArray := if n = 0 then ⟨#[]⟩ else dgs n

theorem dg0_step (n : Nat) (h : n ≠ 0) : dg0 n = dg0 (n / 10) ++ strOfNums [48 + ((n % 10 : Nat) : Int)] := by
  unfold dg0
  rw [if_neg h]
  by_cases h10 : n < 10
  · have e : n / 10 = 0 := by omega
    have e' : n % 10 = n := by omega
    rw [dgs, if_pos h10, e, if_pos rfl, e']
    exact (ByteArray.empty_append).symm
  · rw [dgs, if_neg h10, if_neg (by omega)]

theorem dgs_size (d : Nat) : ∀ n, n < 10 ^ (d + 1) → (dgs n).size ≤ d + 1 := by
  induction d with
  | zero => intro n h; rw [dgs, if_pos (by omega)]; simp [strOfNums_size]
  | succ d ih =>
    intro n h
    by_cases h10 : n < 10
    · rw [dgs, if_pos h10]; simp [strOfNums_size]
    · rw [dgs, if_neg h10, ByteArray.size_append, strOfNums_size]
      have := ih (n / 10) (by rw [Nat.pow_succ] at h; omega)
      simp; omega

theorem impl_digits (d : Nat) (hd : d ≤ 100) : ∀ (k n : Nat), n < 10 ^ (d + 1) → n ≤ 18446744073709551615 → d < k → impl_digitsOf.f k (n : Int) = some (dgs n) := by
  induction d with
  | zero =>
    intro k n h hu hk
    obtain ⟨k, rfl⟩ : ∃ m, k = m + 1 := ⟨k - 1, by omega⟩
    simp only [impl_digitsOf.f]
    rw [if_pos (by omega), dgs, if_pos (by omega), IntKind.wrap_u64]
    have e : ((48 + (n : Int)) % 18446744073709551616) % 256 = 48 + (n : Int) := by omega
    rw [e]
  | succ d ih =>
    intro k n h hu hk
    obtain ⟨k, rfl⟩ : ∃ m, k = m + 1 := ⟨k - 1, by omega⟩
    simp only [impl_digitsOf.f]
    by_cases h10 : n < 10
    · rw [if_pos (by omega), dgs, if_pos h10, IntKind.wrap_u64]
      have e : ((48 + (n : Int)) % 18446744073709551616) % 256 = 48 + (n : Int) := by omega
      rw [e]
    · have hp : n / 10 < 10 ^ (d + 1) := by rw [Nat.pow_succ] at h; omega
      have hz := dgs_size d (n / 10) hp
      rw [if_neg (by omega), Int.tdiv_eq_ediv_of_nonneg (by omega), Int.tmod_eq_emod_of_nonneg (by omega)]
      have e1 : IntKind.u64.wrap ((n : Int) / 10) = ((n / 10 : Nat) : Int) := by rw [IntKind.wrap_u64]; omega
      have e2 : (IntKind.u64.wrap (48 + (n : Int) % 10)) % 256 = 48 + ((n % 10 : Nat) : Int) := by rw [IntKind.wrap_u64]; omega
      rw [e1, e2, ih (by omega) k (n / 10) hp (by omega) (by omega)]
      simp only [Option.bind_some]
      rw [if_pos (by rw [strOfNums_size]; simp; omega)]
      conv => rhs; rw [dgs, if_neg h10]

/-- A number with its sign. -/
def signed (b : Bool) (n : Nat) : Int := if b then -(n : Int) else n

theorem fig (x : Int) (m : Nat) (hm : m < 10) (hx : x = m ∨ x = -(m : Int)) : (x < 0 → wrap64 (48 + wrap64 (-x)) % 256 = 48 + (m : Int)) ∧ (¬ x < 0 → wrap64 (48 + x) % 256 = 48 + (m : Int)) := by
  unfold wrap64
  rcases hx with rfl | rfl <;> constructor <;> intro h <;> omega

theorem spec_digits (b : Bool) (d : Nat) : ∀ (k n : Nat) (out : ByteArray), n < 10 ^ d → d + out.size ≤ 1000 → d ≤ 100 → n ≤ 9223372036854775808 → d < k →
    spec_FormatInt.l0 k (signed b n) b out = some ((if b then (⟨#[45]⟩ : ByteArray) else ⟨#[]⟩) ++ (dg0 n ++ out)) := by
  induction d with
  | zero =>
    intro k n out h hz hd hu hk
    obtain ⟨k, rfl⟩ : ∃ m, k = m + 1 := ⟨k - 1, by omega⟩
    have e : n = 0 := by omega
    subst e
    have e0 : signed b 0 = 0 := by cases b <;> rfl
    simp only [spec_FormatInt.l0]
    have e1 : dg0 0 ++ out = out := ByteArray.empty_append
    rw [if_pos e0, e1]
    cases b
    · simp; exact ByteArray.empty_append.symm
    · simp; omega
  | succ d ih =>
    intro k n out h hz hd hu hk
    obtain ⟨k, rfl⟩ : ∃ m, k = m + 1 := ⟨k - 1, by omega⟩
    by_cases h0 : n = 0
    · subst h0
      have e0 : signed b 0 = 0 := by cases b <;> rfl
      simp only [spec_FormatInt.l0]
      have e1 : dg0 0 ++ out = out := ByteArray.empty_append
      rw [if_pos e0, e1]
      cases b
      · simp; exact ByteArray.empty_append.symm
      · simp; omega
    · have hi := ih k (n / 10) (strOfNums [48 + ((n % 10 : Nat) : Int)] ++ out) (by rw [Nat.pow_succ] at h; omega) (by rw [ByteArray.size_append, strOfNums_size]; simp; omega) (by omega) (by omega) (by omega)
      have e0 : signed b n ≠ 0 := by unfold signed; split <;> omega
      have em : Int.tmod (signed b n) 10 = signed b (n % 10) := by
        cases b
        · show Int.tmod (n : Int) 10 = ((n % 10 : Nat) : Int)
          rw [Int.tmod_eq_emod_of_nonneg (by omega)]; omega
        · show Int.tmod (-(n : Int)) 10 = -((n % 10 : Nat) : Int)
          rw [Int.neg_tmod, Int.tmod_eq_emod_of_nonneg (by omega)]; omega
      have ed : wrap64 (Int.tdiv (signed b n) 10) = signed b (n / 10) := by
        cases b
        · show wrap64 (Int.tdiv (n : Int) 10) = ((n / 10 : Nat) : Int)
          rw [Int.tdiv_eq_ediv_of_nonneg (by omega)]; unfold wrap64; omega
        · show wrap64 (Int.tdiv (-(n : Int)) 10) = -((n / 10 : Nat) : Int)
          rw [Int.neg_tdiv, Int.tdiv_eq_ediv_of_nonneg (by omega)]; unfold wrap64; omega
      simp only [spec_FormatInt.l0]
      rw [if_neg e0, em, ed]
      have eb : (strOfNums [48 + ((n % 10 : Nat) : Int)]).size + out.size ≤ 9223372036854775807 := by rw [strOfNums_size]; simp; omega
      have hx : signed b (n % 10) = ((n % 10 : Nat) : Int) ∨ signed b (n % 10) = -((n % 10 : Nat) : Int) := by cases b <;> simp [signed]
      obtain ⟨ez1, ez2⟩ := fig (signed b (n % 10)) (n % 10) (by omega) hx
      by_cases hneg : signed b (n % 10) < 0
      · rw [if_pos hneg, ez1 hneg]
        simp only [Option.bind_some]
        rw [if_pos eb, hi, dg0_step n h0, ByteArray.append_assoc]
      · rw [if_neg hneg, ez2 hneg]
        simp only [Option.bind_some]
        rw [if_pos eb, hi, dg0_step n h0, ByteArray.append_assoc]

theorem FnExactFormatInt : laws_FnExactFormatInt.Pure := by
  intro a ha
  have hw : -9223372036854775808 ≤ a ∧ a ≤ 9223372036854775807 := by
    simpa [Lit.wf, IntKind.min, IntKind.max, IntKind.signed, IntKind.bits] using ha
  refine ⟨40, ?_⟩
  by_cases h0 : a = 0
  · subst h0
    have e1 : spec_FormatInt.f 40 0 = some (⟨#[48]⟩ : ByteArray) := rfl
    have e2 : impl_digitsOf.f 40 (0 : Int) = some (dgs 0) := impl_digits 19 (by omega) 40 0 (by omega) (by omega) (by omega)
    have e3 : dgs 0 = (⟨#[48]⟩ : ByteArray) := by rw [dgs, if_pos (by omega)]; rfl
    have e4 : impl_FormatInt.f 40 0 = some (⟨#[48]⟩ : ByteArray) := by
      simp only [impl_FormatInt.f]
      rw [if_neg (by omega), show IntKind.u64.wrap 0 = 0 by rw [IntKind.wrap_u64]; rfl, e2, e3]; rfl
    simp only [laws_FnExactFormatInt.f, e1, e4, Option.bind_some, if_true]
  have big : a.natAbs < 10 ^ 20 := by
    have : a.natAbs ≤ 9223372036854775808 := by omega
    omega
  have ed : dg0 a.natAbs = dgs a.natAbs := by unfold dg0; rw [if_neg (by omega)]
  have eq_ : a = signed (decide (a < 0)) a.natAbs := by unfold signed; by_cases h : a < 0 <;> simp [h] <;> omega
  have hs : spec_FormatInt.f 40 a = some ((if decide (a < 0) then (⟨#[45]⟩ : ByteArray) else ⟨#[]⟩) ++ dgs a.natAbs) := by
    unfold spec_FormatInt.f
    rw [if_neg h0]
    have := spec_digits (decide (a < 0)) 20 40 a.natAbs ⟨#[]⟩ big (by decide) (by omega) (by omega) (by omega)
    rw [← eq_, ed] at this
    rw [this]
    exact congrArg some (congrArg _ ByteArray.append_empty)
  have hz := dgs_size 19 a.natAbs big
  have hi : impl_FormatInt.f 40 a = some ((if decide (a < 0) then (⟨#[45]⟩ : ByteArray) else ⟨#[]⟩) ++ dgs a.natAbs) := by
    unfold impl_FormatInt.f
    have hd := impl_digits 19 (by omega) 40 a.natAbs big (by omega) (by omega)
    by_cases h : a < 0
    · have e : IntKind.u64.wrap (-(IntKind.u64.wrap a)) = (a.natAbs : Int) := by rw [IntKind.wrap_u64, IntKind.wrap_u64]; omega
      rw [if_pos h, e, hd]
      simp only [Option.bind_some]
      rw [if_pos (by omega)]
      simp [h]
    · have e : IntKind.u64.wrap a = (a.natAbs : Int) := by rw [IntKind.wrap_u64]; omega
      rw [if_neg h, e, hd]
      simp [h]
      exact ByteArray.empty_append.symm
  unfold laws_FnExactFormatInt.f
  rw [hs, hi]
  simp

end Go.Proofs.Ytncajfbncgglcaa.Pure
