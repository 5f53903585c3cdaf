/- The program's IsName answers as the reference's, for every string (of at most 2^47 - 4096 bytes). -/
import Derived.Test.YtncajfbncgglcaaPFnExactIsNamex1
namespace Go.Proofs.Ytncajfbncgglcaa.Pure
open Go.RowKit Go.Proofs.Ytncajfbncgglcaa.PFnExactIsName Go.Proofs.YtncajfbncgglcaaW.PrintWords Go.Proofs.YtncajfbncgglcaaW.PrintLast

theorem wrap_next {i : Int} {n : Nat} (h0 : 0 ≤ i) (h : i < (n : Int)) (hn : n ≤ 140737488351232) : wrap64 (i + 1) = i + 1 := by
  unfold wrap64
  omega

/-- May this byte stand at this place of a name? -/
def okb (s : ByteArray) (i : Int) : Bool := if 97 ≤ bt s i ∧ bt s i ≤ 122 then true else if i = 0 then false else decide (48 ≤ bt s i ∧ bt s i ≤ 57)

/-- So many bytes from a place on may stand in a name. -/
def okn (s : ByteArray) : Nat → Int → Bool
  | 0, _ => true
  | d + 1, i => okb s i && okn s d (i + 1)

theorem byte_ok (s : ByteArray) (i : Int) : impl_nameByte.f (bt s i) (i == 0) = some (okb s i) := by
  unfold impl_nameByte.f okb
  by_cases h0 : i = 0
  · subst h0
    by_cases h1 : bt s 0 ≥ 97 <;> by_cases h2 : bt s 0 ≤ 122 <;> simp [h1, h2]
  · by_cases h1 : bt s i ≥ 97 <;> by_cases h2 : bt s i ≤ 122 <;> by_cases h3 : bt s i ≥ 48 <;> by_cases h4 : bt s i ≤ 57 <;> first | (exfalso; omega) | simp [h0, h1, h2, h3, h4]

theorem spec_loop (s : ByteArray) (hn : s.size ≤ 140737488351232) (d : Nat) : ∀ (k : Nat) (i : Int), 0 ≤ i → i + d = s.size → d < k →
    spec_IsName.l0 k s i = some (okn s d i && (decide (1 ≤ s.size) && decide (s.size ≤ 4))) := by
  induction d with
  | zero =>
    intro k i h0 h1 hk
    obtain ⟨k, rfl⟩ : ∃ m, k = m + 1 := ⟨k - 1, by omega⟩
    simp only [spec_IsName.l0, spec_l1In.f]
    rw [if_neg (by omega)]
    have e : decide ((s.size : Int) ≤ 4) = decide (s.size ≤ 4) := decide_eq_decide.mpr (by omega)
    by_cases h : (s.size : Int) ≥ 1
    · have h' : 1 ≤ s.size := by omega
      rw [if_pos h, e]; simp [h', okn]
    · have h' : s.size = 0 := by omega
      rw [if_neg h]; simp [h', okn]
  | succ d ih =>
    intro k i h0 h1 hk
    obtain ⟨k, rfl⟩ : ∃ m, k = m + 1 := ⟨k - 1, by omega⟩
    have hlt : i < (s.size : Int) := by omega
    have hi := ih k (i + 1) (by omega) (by omega) (by omega)
    simp only [spec_IsName.l0]
    rw [if_pos hlt, if_pos h0, wrap_next h0 hlt hn, hi]
    have hb : (if bt s i ≥ 97 then (if bt s i ≤ 122 then true else (if i = 0 then false else (if bt s i < 48 then false else (if bt s i > 57 then false else true)))) else (if i = 0 then false else (if bt s i < 48 then false else (if bt s i > 57 then false else true)))) = okb s i := by
      unfold okb
      by_cases h2 : bt s i ≥ 97 <;> by_cases h3 : bt s i ≤ 122 <;> by_cases h5 : bt s i < 48 <;> by_cases h6 : bt s i > 57 <;> by_cases h4 : i = 0 <;> first | (exfalso; omega) | (have e1 : 48 ≤ bt s i := by omega) | skip
      all_goals first | (have e2 : ¬ 48 ≤ bt s i := by omega) | skip
      all_goals first | (have e3 : bt s i ≤ 57 := by omega) | (have e3 : ¬ bt s i ≤ 57 := by omega)
      all_goals simp [*]
    simp only [okn]
    rw [← hb]
    repeat' split
    all_goals simp_all

theorem impl_loop (s : ByteArray) (hn : s.size ≤ 140737488351232) (d : Nat) : ∀ (k : Nat) (i : Int), 0 ≤ i → i + d = s.size → d < k →
    impl_IsName.l0 k s (s.size : Int) i = some (okn s d i) := by
  induction d with
  | zero =>
    intro k i h0 h1 hk
    obtain ⟨k, rfl⟩ : ∃ m, k = m + 1 := ⟨k - 1, by omega⟩
    simp only [impl_IsName.l0]
    rw [if_neg (by omega)]; rfl
  | succ d ih =>
    intro k i h0 h1 hk
    obtain ⟨k, rfl⟩ : ∃ m, k = m + 1 := ⟨k - 1, by omega⟩
    have hlt : i < (s.size : Int) := by omega
    have hi := ih k (i + 1) (by omega) (by omega) (by omega)
    simp only [impl_IsName.l0]
    rw [if_pos hlt, if_pos h0, if_pos hlt, byte_ok, wrap_next h0 hlt hn, hi]
    simp only [okn, Option.bind_some]
    cases okb s i <;> simp

theorem FnExactIsName : laws_FnExactIsName.Pure := by
  intro s hn
  have hs := spec_loop s hn s.size (s.size + 2) 0 (by omega) (by omega) (by omega)
  have hi := impl_loop s hn s.size (s.size + 1) 0 (by omega) (by omega) (by omega)
  refine ⟨s.size + 2, ?_⟩
  have h1 : spec_IsName.f (s.size + 2) s = some (okn s s.size 0 && (decide (1 ≤ s.size) && decide (s.size ≤ 4))) := hs
  have h2 : impl_IsName.f (s.size + 2) s = some (okn s s.size 0 && (decide (1 ≤ s.size) && decide (s.size ≤ 4))) := by
    simp only [impl_IsName.f, impl_IsName.j0, hi]
    by_cases h : (s.size : Int) = 0
    · have h' : s.size = 0 := by omega
      rw [if_pos h]; simp [h']
    · have h' : 1 ≤ s.size := by omega
      rw [if_neg h]
      by_cases h4 : (s.size : Int) > 4
      · have h4' : ¬ s.size ≤ 4 := by omega
        simp [h4, h4']
      · have h4' : s.size ≤ 4 := by omega
        simp [h', h4']; omega
  unfold laws_FnExactIsName.f
  rw [h1, h2]
  simp

end Go.Proofs.Ytncajfbncgglcaa.Pure
