/- A name is inserted at its place, and removed again, for every code (of at most 2^47 - 4096 bytes). -/
import Derived.Test.YteagmmcglbcifaaXEx9
namespace Go.Proofs.Yteagmmcglbcifaa.Pure
open Go.RowKit Go.Proofs.Yteagmmcglbcifaa.XE Go.Proofs.YteagmmcglbcifaaW.PrintWords Go.Proofs.YteagmmcglbcifaaW.PrintLast

set_option linter.unusedSimpArgs false
set_option linter.unusedVariables false

theorem w64 {n : Int} (h : -9223372036854775808 ≤ n) (h' : n ≤ 9223372036854775807) : wrap64 n = n := by unfold wrap64; omega
theorem cast1 (i : Nat) : (i : Int) + 1 = ((i + 1 : Nat) : Int) := by omega
theorem succ_of {d k : Nat} (h : d < k) : ∃ m, k = m + 1 := ⟨k - 1, by omega⟩

theorem rd_at (l : List ByteArray) (i : Nat) (h : i < l.length) : rdOf ByteArray.empty l (i : Int) = l[i] := by
  simp [rdOf, h]

/-- How many bytes the strings have together. -/
def tot (l : List ByteArray) : Nat := (l.map ByteArray.size).sum

theorem tot_cons (p : ByteArray) (l : List ByteArray) : tot (p :: l) = p.size + tot l := by simp only [tot, List.map_cons, List.sum_cons]

theorem tot_drop (l : List ByteArray) (i : Nat) (h : i < l.length) : tot (l.drop i) = l[i].size + tot (l.drop (i + 1)) := by
  rw [List.drop_eq_getElem_cons h, tot_cons]

/-- A list with a string put in at its place, from the i-th place on. -/
def ins (a : ByteArray) : List ByteArray → List ByteArray
  | [] => [a]
  | x :: xs => if (Op.bytesLess x.toList a.toList) = true then x :: ins a xs else if x.toList = a.toList then x :: xs else a :: x :: xs

theorem ins_len (a : ByteArray) (l : List ByteArray) : (ins a l).length ≤ l.length + 1 := by
  induction l with
  | nil => simp [ins]
  | cons x xs ih =>
    simp only [ins]
    split
    · simp only [List.length_cons]; omega
    · split <;> simp only [List.length_cons] <;> omega

theorem ins_j (l : List ByteArray) (a : ByteArray) (hl : l.length ≤ 1048577) (i : Nat) (hi : i ≤ l.length) (h : ∀ hlt : i < l.length, ¬ (Op.bytesLess l[i].toList a.toList) = true) (k : Nat) (hk : 1 < k) : impl_InsertName.j1 k l a i = some (l.take i ++ ins a (l.drop i)) := by
  obtain ⟨k, rfl⟩ : ∃ m, k = m + 2 := ⟨k - 2, by omega⟩
  have lt1 : (l.take i).length = i := by rw [List.length_take]; omega
  have ld1 : (l.drop i).length = l.length - i := by rw [List.length_drop]
  have c1 : ([] : List ByteArray).length + (l.take i).length < 8796093022208 := by rw [lt1]; simp; omega
  have c2 : (l.take i).length < 8796093022208 := by rw [lt1]; omega
  have c4 : ((l.take i) ++ [a]).length + (l.drop i).length < 8796093022208 := by rw [List.length_append, lt1, ld1]; simp; omega
  have c3 : ([] : List ByteArray).length + l.length < 8796093022208 := by simp; omega
  by_cases hlt : i < l.length
  · have hd := List.drop_eq_getElem_cons hlt
    by_cases g : l[i].toList = a.toList
    · have e : l.take i ++ ins a (l.drop i) = l := by
        rw [hd, ins, if_neg (h hlt), if_pos g, ← hd, List.take_append_drop]
      have gb : (l[i].toList == a.toList) = true := by simp [g]
      rw [e]
      simp (disch := omega) only [impl_InsertName.j1, impl_InsertName.j2, impl_cloneStrings.f, rd_at, if_pos, gb, if_true, if_pos c3, Option.bind_some, List.nil_append]
    · have e : l.take i ++ ins a (l.drop i) = ((l.take i) ++ [a]) ++ l.drop i := by
        rw [hd, ins, if_neg (h hlt), if_neg g, List.append_assoc]; rfl
      have gb : (l[i].toList == a.toList) = false := by simp [g]
      rw [e]
      simp (disch := omega) only [impl_InsertName.j1, impl_InsertName.j2, impl_cloneStrings.f, rd_at, if_pos, gb, Bool.false_eq_true, if_false, Int.toNat_natCast, if_pos c1, if_pos c2, if_pos c4, Option.bind_some, List.nil_append]
  · have e : l.drop i = [] := List.drop_of_length_le (by omega)
    rw [e] at c4 ⊢
    simp (disch := omega) only [impl_InsertName.j1, impl_InsertName.j2, impl_cloneStrings.f, if_neg, if_pos, Bool.false_eq_true, if_false, Int.toNat_natCast, if_pos c1, if_pos c2, e, if_pos c4, Option.bind_some, List.nil_append, List.append_nil, ins]

theorem ins_s (l : List ByteArray) (a : ByteArray) (hl : l.length ≤ 1048577) (i : Nat) (hi : i ≤ l.length) (h : ∀ hlt : i < l.length, ¬ (Op.bytesLess l[i].toList a.toList) = true) (k : Nat) (hk : 1 < k) : spec_InsertName.l0 k l a i = some (l.take i ++ ins a (l.drop i)) := by
  obtain ⟨k, rfl⟩ := succ_of (show 0 < k by omega)
  have lt1 : (l.take i).length = i := by rw [List.length_take]; omega
  have ld1 : (l.drop i).length = l.length - i := by rw [List.length_drop]
  have c1 : ([] : List ByteArray).length + (l.take i).length < 8796093022208 := by rw [lt1]; simp; omega
  have c2 : (l.take i).length < 8796093022208 := by rw [lt1]; omega
  have c5 : (l.take i).length + (l.drop i).length < 8796093022208 := by rw [lt1, ld1]; omega
  have c4 : ((l.take i) ++ [a]).length + (l.drop i).length < 8796093022208 := by rw [List.length_append, lt1, ld1]; simp; omega
  by_cases hlt : i < l.length
  · have hd := List.drop_eq_getElem_cons hlt
    by_cases g : l[i].toList = a.toList
    · have e : l.take i ++ ins a (l.drop i) = l := by
        rw [hd, ins, if_neg (h hlt), if_pos g, ← hd, List.take_append_drop]
      rw [e]
      simp (disch := omega) only [spec_InsertName.l0, rd_at, if_pos, if_neg (h hlt), if_neg, if_pos g, Option.bind_some, Int.toNat_natCast, List.nil_append, if_pos c1, if_pos c5, List.take_append_drop]
    · have e : l.take i ++ ins a (l.drop i) = ((l.take i) ++ [a]) ++ l.drop i := by
        rw [hd, ins, if_neg (h hlt), if_neg g, List.append_assoc]; rfl
      rw [e]
      simp (disch := omega) only [spec_InsertName.l0, rd_at, if_pos, if_neg (h hlt), if_neg, if_neg g, Option.bind_some, Int.toNat_natCast, List.nil_append, if_pos c1, if_pos c2, if_pos c4]
  · have e : l.drop i = [] := List.drop_of_length_le (by omega)
    have ei : (i : Int) = (l.length : Int) := by omega
    rw [e] at c4 ⊢
    simp (disch := omega) only [spec_InsertName.l0, if_neg, if_pos, if_pos ei, Option.bind_some, Int.toNat_natCast, List.nil_append, if_pos c1, if_pos c2, e, if_pos c4, List.append_nil, ins]

theorem ins_f (l : List ByteArray) (a : ByteArray) (hl : l.length ≤ 1048577) (k : Nat) (hk : l.length + 3 < k) : spec_InsertName.f k l a = some (ins a l) ∧ impl_InsertName.f k l a = some (ins a l) := by
  have loop : ∀ d i, i + d = l.length → ∀ k, d + 3 < k → spec_InsertName.l0 k l a i = some (l.take i ++ ins a (l.drop i)) ∧ impl_InsertName.l0 k l a i = some (l.take i ++ ins a (l.drop i)) := by
    intro d
    induction d with
    | zero =>
      intro i hi k hk
      refine ⟨ins_s l a hl i (by omega) (fun h => absurd h (by omega)) k (by omega), ?_⟩
      have J := ins_j l a hl i (by omega) (fun h => absurd h (by omega))
      obtain ⟨k, rfl⟩ := succ_of (show 0 < k by omega)
      have J' := J k (by omega)
      simp (disch := omega) only [impl_InsertName.l0, if_neg, J']
    | succ d ih =>
      intro i hi k hk
      have hlt : i < l.length := by omega
      have hd := List.drop_eq_getElem_cons hlt
      have ht : l.take i ++ [l[i]] = l.take (i + 1) := by rw [List.take_succ_eq_append_getElem hlt]
      by_cases h : (Op.bytesLess l[i].toList a.toList) = true
      · obtain ⟨k, rfl⟩ := succ_of (show 0 < k by omega)
        obtain ⟨r1, r2⟩ := ih (i + 1) (by omega) k (by omega)
        have e : l.take i ++ ins a (l.drop i) = l.take (i + 1) ++ ins a (l.drop (i + 1)) := by
          rw [hd, ins, if_pos h, ← ht, List.append_assoc]; rfl
        rw [e]
        simp (disch := omega) only [spec_InsertName.l0, impl_InsertName.l0, rd_at, if_pos, if_pos h, w64, cast1, r1, r2, and_self]
      · refine ⟨ins_s l a hl i (by omega) (fun _ => h) k (by omega), ?_⟩
        have J := ins_j l a hl i (by omega) (fun _ => h)
        obtain ⟨k, rfl⟩ := succ_of (show 0 < k by omega)
        have J' := J k (by omega)
        simp (disch := omega) only [impl_InsertName.l0, rd_at, if_pos, if_neg h, J']
  have h := loop l.length 0 (by omega) k (by omega)
  simp only [List.drop_zero, List.take_zero, List.nil_append, Int.natCast_zero] at h
  exact h

/-- A list without a string. -/
def wo (a : ByteArray) : List ByteArray → List ByteArray
  | [] => []
  | x :: xs => if x.toList = a.toList then wo a xs else x :: wo a xs

theorem wo_len (a : ByteArray) (l : List ByteArray) : (wo a l).length ≤ l.length := by
  induction l with
  | nil => simp [wo]
  | cons x xs ih =>
    simp only [wo]
    split
    · simp only [List.length_cons]; omega
    · simp only [List.length_cons]; omega

theorem wo_f (l : List ByteArray) (a : ByteArray) (hl : l.length ≤ 1048577) (k : Nat) (hk : l.length < k) : spec_WithoutName.f k l a = some (wo a l) ∧ impl_WithoutName.f k l a = some (wo a l) := by
  have loop : ∀ d i (acc : List ByteArray), i + d = l.length → acc.length + d ≤ 1048577 → ∀ k, d < k → spec_WithoutName.l0 k l a acc i = some (acc ++ wo a (l.drop i)) ∧ impl_WithoutName.l0 k a acc l (l.length : Int) i = some (acc ++ wo a (l.drop i)) := by
    intro d
    induction d with
    | zero =>
      intro i acc hi ha k hk
      obtain ⟨k, rfl⟩ := succ_of (show 0 < k by omega)
      have e : l.drop i = [] := List.drop_of_length_le (by omega)
      simp (disch := omega) only [spec_WithoutName.l0, impl_WithoutName.l0, if_neg, e, wo, List.append_nil, and_self]
    | succ d ih =>
      intro i acc hi ha k hk
      obtain ⟨k, rfl⟩ := succ_of (show 0 < k by omega)
      have hlt : i < l.length := by omega
      rw [List.drop_eq_getElem_cons hlt, wo]
      by_cases h : l[i].toList = a.toList
      · obtain ⟨r1, r2⟩ := ih (i + 1) acc (by omega) (by omega) k (by omega)
        rw [if_pos h]
        simp (disch := omega) only [spec_WithoutName.l0, impl_WithoutName.l0, rd_at, if_pos, if_pos h, w64, cast1, r1, r2, and_self]
      · obtain ⟨r1, r2⟩ := ih (i + 1) (acc ++ [l[i]]) (by omega) (by simp; omega) k (by omega)
        have c : acc.length < 8796093022208 := by omega
        rw [if_neg h]
        simp (disch := omega) only [spec_WithoutName.l0, impl_WithoutName.l0, rd_at, if_pos, if_neg h, if_pos c, w64, cast1, r1, r2, List.append_assoc, List.singleton_append, and_self]
  have h := loop l.length 0 [] (by omega) (by simp; omega) k hk
  simp only [List.drop_zero, List.nil_append, Int.natCast_zero] at h
  exact h

/-- Do the texts from the i-th on ascend, so many of them? -/
def ascN (l : List ByteArray) : Nat → Nat → Bool
  | 0, _ => true
  | d + 1, i => if i < l.length then (Op.bytesLess ((rdOf ByteArray.empty l ((i : Int) - 1)).toList) ((rdOf ByteArray.empty l (i : Int)).toList) && ascN l d (i + 1)) else true
def asc (l : List ByteArray) : Bool := ascN l l.length 1

theorem asc_loop (l : List ByteArray) (hl : l.length ≤ 1048576) (d : Nat) : ∀ (i : Nat), 1 ≤ i → l.length ≤ i + d → ∀ k, d < k → spec_AreAscending.l0 k l i = some (ascN l d i) ∧ impl_AreAscending.l0 k l i = some (ascN l d i) := by
  induction d with
  | zero =>
    intro i h1 hi k hk
    obtain ⟨k, rfl⟩ := succ_of hk
    simp (disch := omega) only [spec_AreAscending.l0, impl_AreAscending.l0, if_neg, ascN, and_self]
  | succ d ih =>
    intro i h1 hi k hk
    obtain ⟨k, rfl⟩ := succ_of hk
    by_cases hlt : i < l.length
    · obtain ⟨r1, r2⟩ := ih (i + 1) (by omega) (by omega) k (by omega)
      by_cases he : (Op.bytesLess ((rdOf ByteArray.empty l ((i : Int) - 1)).toList) ((rdOf ByteArray.empty l (i : Int)).toList)) = true
      · simp (disch := omega) only [spec_AreAscending.l0, impl_AreAscending.l0, ascN, if_pos hlt, w64, cast1, if_pos, if_pos he, r1, r2, he, Bool.true_and, if_true, and_self]
      · simp (disch := omega) only [spec_AreAscending.l0, impl_AreAscending.l0, ascN, if_pos hlt, w64, cast1, if_pos, if_neg he, Bool.eq_false_iff.mpr he, Bool.false_and, Bool.false_eq_true, if_false, and_self]
    · simp (disch := omega) only [spec_AreAscending.l0, impl_AreAscending.l0, ascN, if_neg hlt, if_neg, and_self]

theorem asc_f (l : List ByteArray) (hl : l.length ≤ 1048576) (k : Nat) (hk : l.length < k) : spec_AreAscending.f k l = some (asc l) ∧ impl_AreAscending.f k l = some (asc l) := asc_loop l hl l.length 1 (by omega) (by omega) k hk

/-- May this byte stand at this place of a name? -/
def okb (s : ByteArray) (i : Int) : Bool := if 97 ≤ bt s i ∧ bt s i ≤ 122 then true else if i = 0 then false else decide (48 ≤ bt s i ∧ bt s i ≤ 57)

/-- So many bytes from a place on may stand in a name. -/
def okn (s : ByteArray) : Nat → Int → Bool
  | 0, _ => true
  | d + 1, i => okb s i && okn s d (i + 1)

theorem byte_ok (s : ByteArray) (i : Int) : impl_nameByte.f (bt s i) (i == 0) = some (okb s i) := by
  unfold impl_nameByte.f okb
  by_cases h0 : i = 0
  · subst h0
    by_cases h1 : bt s 0 ≥ 97 <;> by_cases h2 : bt s 0 ≤ 122 <;> simp [h1, h2]
  · by_cases h1 : bt s i ≥ 97 <;> by_cases h2 : bt s i ≤ 122 <;> by_cases h3 : bt s i ≥ 48 <;> by_cases h4 : bt s i ≤ 57 <;> first | (exfalso; omega) | simp [h0, h1, h2, h3, h4]

theorem okb_ite (s : ByteArray) (i : Int) : (if bt s i ≥ 97 then (if bt s i ≤ 122 then true else (if i = 0 then false else (if bt s i < 48 then false else (if bt s i > 57 then false else true)))) else (if i = 0 then false else (if bt s i < 48 then false else (if bt s i > 57 then false else true)))) = okb s i := by
  unfold okb
  by_cases h2 : bt s i ≥ 97 <;> by_cases h3 : bt s i ≤ 122 <;> by_cases h5 : bt s i < 48 <;> by_cases h6 : bt s i > 57 <;> by_cases h4 : i = 0 <;> first | (exfalso; omega) | (have e1 : 48 ≤ bt s i := by omega) | skip
  all_goals first | (have e2 : ¬ 48 ≤ bt s i := by omega) | skip
  all_goals first | (have e3 : bt s i ≤ 57 := by omega) | (have e3 : ¬ bt s i ≤ 57 := by omega)
  all_goals simp [*]

theorem name_spec_loop (s : ByteArray) (hn : s.size ≤ 140737488351232) (d : Nat) : ∀ (k : Nat) (i : Int), 0 ≤ i → i + d = s.size → d < k →
    spec_IsName.l0 k s i = some (okn s d i && (decide (1 ≤ s.size) && decide (s.size ≤ 4))) := by
  induction d with
  | zero =>
    intro k i h0 h1 hk
    obtain ⟨k, rfl⟩ := succ_of hk
    simp only [spec_IsName.l0, spec_l1In.f]
    rw [if_neg (by omega)]
    have e : decide ((s.size : Int) ≤ 4) = decide (s.size ≤ 4) := decide_eq_decide.mpr (by omega)
    by_cases h : (s.size : Int) ≥ 1
    · have h' : 1 ≤ s.size := by omega
      rw [if_pos h, e]; simp [h', okn]
    · have h' : s.size = 0 := by omega
      rw [if_neg h]; simp [h', okn]
  | succ d ih =>
    intro k i h0 h1 hk
    obtain ⟨k, rfl⟩ := succ_of hk
    have hi := ih k (i + 1) (by omega) (by omega) (by omega)
    simp (disch := omega) only [spec_IsName.l0, if_pos, w64]
    rw [hi]
    simp only [okn]
    rw [← okb_ite]
    repeat' split
    all_goals first | (exfalso; omega) | simp_all

theorem name_impl_loop (s : ByteArray) (hn : s.size ≤ 140737488351232) (d : Nat) : ∀ (k : Nat) (i : Int), 0 ≤ i → i + d = s.size → d < k →
    impl_IsName.l0 k s (s.size : Int) i = some (okn s d i) := by
  induction d with
  | zero =>
    intro k i h0 h1 hk
    obtain ⟨k, rfl⟩ := succ_of hk
    simp (disch := omega) only [impl_IsName.l0, if_neg, okn]
  | succ d ih =>
    intro k i h0 h1 hk
    obtain ⟨k, rfl⟩ := succ_of hk
    have hi := ih k (i + 1) (by omega) (by omega) (by omega)
    simp (disch := omega) only [impl_IsName.l0, if_pos, w64, byte_ok]
    rw [hi]
    simp only [okn, Option.bind_some]
    cases okb s i <;> simp

/-- Is this a name? -/
def nmok (s : ByteArray) : Bool := okn s s.size 0 && (decide (1 ≤ s.size) && decide (s.size ≤ 4))

theorem name_spec (s : ByteArray) (hn : s.size ≤ 140737488351232) (k : Nat) (hk : s.size < k) : spec_IsName.f k s = some (nmok s) :=
  name_spec_loop s hn s.size k 0 (by omega) (by omega) hk

theorem name_impl (s : ByteArray) (hn : s.size ≤ 140737488351232) (k : Nat) (hk : s.size + 1 < k) : impl_IsName.f k s = some (nmok s) := by
  obtain ⟨k, rfl⟩ := succ_of hk
  have hi := name_impl_loop s hn s.size k 0 (by omega) (by omega) (by omega)
  unfold nmok
  simp only [impl_IsName.f, impl_IsName.j0, hi]
  by_cases h : (s.size : Int) = 0
  · have h' : s.size = 0 := by omega
    rw [if_pos h]; simp [h']
  · have h' : 1 ≤ s.size := by omega
    rw [if_neg h]
    by_cases h4 : (s.size : Int) > 4
    · have h4' : ¬ s.size ≤ 4 := by omega
      simp [h4, h4']
    · have h4' : s.size ≤ 4 := by omega
      simp [h', h4']; omega

theorem nmok_empty : nmok ⟨#[]⟩ = false := by decide

theorem nmok_size {s : ByteArray} (h : nmok s = true) : s.size ≤ 4 := by
  unfold nmok at h
  simp at h
  omega

theorem and255 (n : Int) : Go.bits .and .i64 n 255 = n % 256 := by
  have h255 : (BitVec.ofInt 64 255).toNat = 2 ^ 8 - 1 := by decide
  have key : (BitVec.ofInt 64 n &&& BitVec.ofInt 64 255).toNat = (n % ((2 ^ 64 : Nat) : Int)).toNat % 2 ^ 8 := by
    rw [BitVec.toNat_and, BitVec.toNat_ofInt, h255, Nat.and_two_pow_sub_one_eq_mod]
  show IntKind.i64.wrap ((BitVec.ofInt 64 n &&& BitVec.ofInt 64 255).toNat : Nat) = n % 256
  rw [key, IntKind.wrap_i64]
  omega

theorem new_loop (l : List Int) (hl : l.length * 1 ≤ 140737488351232) (d : Nat) : ∀ (h i : Int), 0 ≤ i → i + d = l.length → ∃ z, ∀ k, d < k → spec_l1New.l0 k l h i = some (l, 0, z) := by
  induction d with
  | zero =>
    intro h i h0 h1
    refine ⟨h, fun k hk => ?_⟩
    obtain ⟨k, rfl⟩ : ∃ m, k = m + 1 := ⟨k - 1, by omega⟩
    simp only [spec_l1New.l0]
    rw [if_neg (by omega)]
  | succ d ih =>
    intro h i h0 h1
    have e : wrap64 (i + 1) = i + 1 := by unfold wrap64; omega
    by_cases h4 : i < 4000
    · obtain ⟨z, hz⟩ := ih (Go.bits .and .i64 (wrap64 ((wrap64 ((wrap64 (h * 131)) + (wrap64 (rd l i)))) + 7)) 1073741823) (i + 1) (by omega) (by omega)
      refine ⟨z, fun k hk => ?_⟩
      obtain ⟨k, rfl⟩ : ∃ m, k = m + 1 := ⟨k - 1, by omega⟩
      simp only [spec_l1New.l0]
      rw [if_pos (by omega), if_pos h4, if_pos h0, e]
      exact hz k (by omega)
    · refine ⟨h, fun k hk => ?_⟩
      obtain ⟨k, rfl⟩ : ∃ m, k = m + 1 := ⟨k - 1, by omega⟩
      simp only [spec_l1New.l0]
      rw [if_pos (by omega), if_neg h4]

theorem new_f (l : List Int) (hl : l.length * 1 ≤ 140737488351232) : ∃ z, ∀ k, l.length < k → spec_l1New.f k l = some (l, 0, z) := by
  obtain ⟨z, hz⟩ := new_loop l hl l.length (wrap64 (26583 + (l.length : Int))) 0 (by omega) (by omega)
  exact ⟨z, fun k hk => hz k hk⟩

theorem byte_f (l : List Int) (i h : Int) (h0 : 0 ≤ i) (hi : i ≤ l.length) (hl : l.length * 1 ≤ 140737488351232) : ∃ x j z, spec_l1Byte.f l i h = some (x, j, z) ∧ 0 ≤ x ∧ x ≤ 255 ∧ 0 ≤ j ∧ j ≤ l.length := by
  simp only [spec_l1Byte.f, and255]
  by_cases h4 : i < (l.length : Int)
  · have e : wrap64 (i + 1) = i + 1 := by unfold wrap64; omega
    rw [if_pos h4, if_pos h0, e]
    exact ⟨_, _, _, rfl, by omega, by omega, by omega, by omega⟩
  · rw [if_neg h4]
    exact ⟨_, _, _, rfl, by omega, by omega, h0, hi⟩

theorem below_f (l : List Int) (i h n : Int) (h0 : 0 ≤ i) (hi : i ≤ l.length) (hl : l.length * 1 ≤ 140737488351232) (hn : 0 < n) (hn' : n ≤ 256) : ∃ x j z, spec_l1Below.f l i h n = some (x, j, z) ∧ 0 ≤ x ∧ x < n ∧ 0 ≤ j ∧ j ≤ l.length := by
  obtain ⟨x, j, z, e, x0, x1, h1, h2⟩ := byte_f l i h h0 hi hl
  refine ⟨Int.tmod x n, j, z, ?_, ?_, ?_, h1, h2⟩
  · simp only [spec_l1Below.f]
    rw [if_neg (by omega), if_pos (by omega), e]
    simp only [Option.bind_some]
    rw [if_neg (by omega)]
  · rw [Int.tmod_eq_emod_of_nonneg x0]; exact Int.emod_nonneg _ (by omega)
  · rw [Int.tmod_eq_emod_of_nonneg x0]; exact Int.emod_lt_of_pos _ hn

theorem below_big (l : List Int) (i h n : Int) (h0 : 0 ≤ i) (hi : i ≤ l.length) (hl : l.length * 1 ≤ 140737488351232) (hn : 256 < n) : ∃ x j z, spec_l1Below.f l i h n = some (x, j, z) ∧ 0 ≤ j ∧ j ≤ l.length := by
  obtain ⟨x, j, z, e, _, _, h1, h2⟩ := byte_f l i h h0 hi hl
  obtain ⟨x', j', z', e', _, _, h1', h2'⟩ := byte_f l j z h1 h2 hl
  obtain ⟨x2, j2, z2, e2, _, _, h12, h22⟩ := byte_f l j' z' h1' h2' hl
  obtain ⟨x3, j3, z3, e3, _, _, h13, h23⟩ := byte_f l j2 z2 h12 h22 hl
  refine ⟨Int.tmod (wrap64 ((wrap64 ((wrap64 ((wrap64 (x * 16777216)) + (wrap64 (x' * 65536)))) + (wrap64 (x2 * 256)))) + x3)) n, j3, z3, ?_, h13, h23⟩
  simp only [spec_l1Below.f]
  rw [if_neg (by omega), if_neg (by omega), e]
  simp only [Option.bind_some]
  rw [e']
  simp only [Option.bind_some]
  rw [e2]
  simp only [Option.bind_some]
  rw [e3]
  simp only [Option.bind_some]
  rw [if_neg (by omega)]

theorem pick_f (l : List Int) (i h : Int) (h0 : 0 ≤ i) (hi : i ≤ l.length) (hl : l.length * 1 ≤ 140737488351232) (xs : List ByteArray) (hx : xs ≠ []) (hx' : xs.length ≤ 256) : ∃ s j z, spec_l1Pick.f l i h xs = some (s, j, z) ∧ s ∈ xs ∧ 0 ≤ j ∧ j ≤ l.length := by
  have hp : 0 < xs.length := List.length_pos_iff.mpr hx
  obtain ⟨x, j, z, e, x0, x1, h1, h2⟩ := below_f l i h xs.length h0 hi hl (by omega) (by omega)
  obtain ⟨n, rfl⟩ := Int.eq_ofNat_of_zero_le x0
  have hn : n < xs.length := by omega
  refine ⟨xs[n], j, z, ?_, List.getElem_mem hn, h1, h2⟩
  simp only [spec_l1Pick.f, e, Option.bind_some]
  rw [if_pos (by omega), if_pos (by omega)]
  simp [rdOf, hn]

theorem pickInt_f (l : List Int) (i h : Int) (h0 : 0 ≤ i) (hi : i ≤ l.length) (hl : l.length * 1 ≤ 140737488351232) (xs : List Int) (hx : xs ≠ []) (hx' : xs.length ≤ 256) : ∃ s j z, spec_l1PickInt.f l i h xs = some (s, j, z) ∧ s ∈ xs ∧ 0 ≤ j ∧ j ≤ l.length := by
  have hp : 0 < xs.length := List.length_pos_iff.mpr hx
  obtain ⟨x, j, z, e, x0, x1, h1, h2⟩ := below_f l i h xs.length h0 hi hl (by omega) (by omega)
  obtain ⟨n, rfl⟩ := Int.eq_ofNat_of_zero_le x0
  have hn : n < xs.length := by omega
  refine ⟨xs[n], j, z, ?_, List.getElem_mem hn, h1, h2⟩
  simp only [spec_l1PickInt.f, e, Option.bind_some]
  rw [if_pos (by omega), if_pos (by omega)]
  simp [rd, hn]

theorem less_tri (x : List UInt8) : ∀ y, ¬ Op.bytesLess x y = true → x ≠ y → Op.bytesLess y x = true := by
  induction x with
  | nil =>
    intro y h hn
    cases y with
    | nil => exact absurd rfl hn
    | cons b y => exact absurd rfl h
  | cons a x ih =>
    intro y h hn
    cases y with
    | nil => rfl
    | cons b y =>
      simp only [Op.bytesLess, Bool.or_eq_true, decide_eq_true_eq, Bool.and_eq_true, beq_iff_eq, not_or, not_and] at h ⊢
      by_cases e : a = b
      · subst e
        exact .inr ⟨rfl, ih y (h.2 rfl) (fun q => hn (by rw [q]))⟩
      · left
        have h1 := h.1
        rw [UInt8.lt_iff_toNat_lt] at h1 ⊢
        have : a.toNat ≠ b.toNat := fun q => e (UInt8.toNat_inj.mp q)
        omega

def less (x y : ByteArray) : Prop := Op.bytesLess x.toList y.toList = true

/-- In ascending order. -/
def up : List ByteArray → Prop
  | [] => True
  | x :: q => (∀ z ∈ q.head?, less x z) ∧ up q

theorem ins_hd (a : ByteArray) (l : List ByteArray) : ∀ z ∈ (ins a l).head?, z = a ∨ z ∈ l.head? := by
  intro z hz
  cases l with
  | nil => simp [ins] at hz; exact .inl hz.symm
  | cons x q =>
    simp only [ins] at hz
    split at hz
    · right; simpa using hz
    · split at hz
      · right; simpa using hz
      · left; simp at hz; exact hz.symm

theorem ins_up (a : ByteArray) (l : List ByteArray) (h : up l) : up (ins a l) := by
  induction l with
  | nil => exact ⟨fun z hz => by simp at hz, trivial⟩
  | cons x q ih =>
    simp only [ins]
    split
    · rename_i c
      refine ⟨fun z hz => ?_, ih h.2⟩
      rcases ins_hd a q z hz with rfl | hz
      · exact c
      · exact h.1 z hz
    · rename_i c
      split
      · exact h
      · rename_i c2
        refine ⟨fun z hz => ?_, h⟩
        simp at hz
        subst hz
        exact less_tri _ _ c c2

theorem up_iff (l : List ByteArray) : up l ↔ ∀ j, (h : j + 1 < l.length) → less l[j] l[j + 1] := by
  induction l with
  | nil => exact ⟨fun _ j h => by simp at h, fun _ => trivial⟩
  | cons x q ih =>
    constructor
    · intro h j hj
      cases j with
      | zero =>
        cases q with
        | nil => simp at hj
        | cons y q => exact h.1 y rfl
      | succ j => exact ih.mp h.2 j (by simpa using hj)
    · intro h
      refine ⟨fun z hz => ?_, ih.mpr fun j hj => h (j + 1) (by simpa using hj)⟩
      cases q with
      | nil => simp at hz
      | cons y q =>
        simp at hz
        subst hz
        exact h 0 (by simp)

theorem ascN_iff (l : List ByteArray) (d : Nat) : ∀ i, 1 ≤ i → l.length ≤ i + d → (ascN l d i = true ↔ ∀ j, (h : j + 1 < l.length) → i ≤ j + 1 → less l[j] l[j + 1]) := by
  induction d with
  | zero => intro i h1 h2; exact ⟨fun _ j h h3 => by omega, fun _ => rfl⟩
  | succ d ih =>
    intro i h1 h2
    by_cases c : i < l.length
    · obtain ⟨m, rfl⟩ : ∃ m, i = m + 1 := ⟨i - 1, by omega⟩
      have e : (((m + 1 : Nat) : Int) - 1) = (m : Int) := by omega
      simp only [ascN]
      rw [if_pos c, e, rd_at l m (by omega), rd_at l (m + 1) c, Bool.and_eq_true, ih (m + 1 + 1) (by omega) (by omega)]
      constructor
      · intro ⟨h3, h4⟩ j hj h5
        by_cases q : j = m
        · subst q; exact h3
        · exact h4 j hj (by omega)
      · intro h
        exact ⟨h m c (by omega), fun j hj h5 => h j hj (by omega)⟩
    · simp only [ascN]
      rw [if_neg c]
      exact ⟨fun _ j h h3 => by omega, fun _ => rfl⟩

theorem asc_iff (l : List ByteArray) : asc l = true ↔ up l := by
  unfold asc
  rw [ascN_iff l l.length 1 (by omega) (by omega), up_iff]
  exact ⟨fun h j hj => h j hj (by omega), fun h j hj _ => h j hj⟩

theorem asc_ins (a : ByteArray) (l : List ByteArray) (h : asc l = true) : asc (ins a l) = true := (asc_iff _).mpr (ins_up a l ((asc_iff l).mp h))

/-- The place of a text. -/
def idx (a : ByteArray) : List ByteArray → Nat → Int
  | [], _ => -1
  | x :: q, i => if x.toList = a.toList then (i : Int) else idx a q (i + 1)

theorem idx_loop (l : List ByteArray) (a : ByteArray) (hl : l.length ≤ 1048576) (d : Nat) : ∀ (i : Nat), i + d = l.length → ∀ k, d < k → spec_IndexOf.l0 k l a i = some (idx a (l.drop i) i) ∧ impl_IndexOf.l0 k a l l.length i = some (idx a (l.drop i) i) := by
  induction d with
  | zero =>
    intro i hi k hk
    obtain ⟨k, rfl⟩ := succ_of hk
    have e : l.drop i = [] := List.drop_eq_nil_of_le (by omega)
    simp (disch := omega) only [spec_IndexOf.l0, impl_IndexOf.l0, if_neg, e, idx, and_self]
  | succ d ih =>
    intro i hi k hk
    obtain ⟨k, rfl⟩ := succ_of hk
    rw [List.drop_eq_getElem_cons (show i < l.length by omega)]
    by_cases he : l[i].toList = a.toList
    · simp (disch := omega) only [spec_IndexOf.l0, impl_IndexOf.l0, if_pos, rd_at, if_pos he, idx, and_self]
    · simp (disch := omega) only [spec_IndexOf.l0, impl_IndexOf.l0, if_pos, rd_at, if_neg he, idx, w64, cast1]
      exact ih (i + 1) (by omega) k (by omega)

theorem idx_f (l : List ByteArray) (a : ByteArray) (hl : l.length ≤ 1048576) (k : Nat) (hk : l.length < k) : spec_IndexOf.f k l a = some (idx a l 0) ∧ impl_IndexOf.f k l a = some (idx a l 0) := idx_loop l a hl l.length 0 (by omega) k hk

theorem idx_mem (a : ByteArray) (l : List ByteArray) (h : ∃ x ∈ l, x.toList = a.toList) : ∀ i, 0 ≤ idx a l i := by
  induction l with
  | nil => obtain ⟨x, hx, _⟩ := h; simp at hx
  | cons y q ih =>
    intro i
    simp only [idx]
    split
    · omega
    · rename_i c
      obtain ⟨x, hx, e⟩ := h
      rcases List.mem_cons.mp hx with rfl | hx
      · exact absurd e c
      · exact ih ⟨x, hx, e⟩ (i + 1)

theorem ins_mem (a : ByteArray) (l : List ByteArray) : ∃ x ∈ ins a l, x.toList = a.toList := by
  induction l with
  | nil => exact ⟨a, by simp [ins], rfl⟩
  | cons y q ih =>
    simp only [ins]
    split
    · obtain ⟨x, hx, e⟩ := ih; exact ⟨x, List.mem_cons_of_mem _ hx, e⟩
    · split
      · rename_i c; exact ⟨y, by simp, c⟩
      · exact ⟨a, by simp, rfl⟩

theorem wo_ins (a : ByteArray) (l : List ByteArray) : wo a (ins a l) = wo a l := by
  induction l with
  | nil => simp [ins, wo]
  | cons y q ih =>
    simp only [ins]
    split
    · simp only [wo, ih]
    · split
      · rfl
      · conv => lhs; rw [wo, if_pos rfl]

theorem same_loop (l : List ByteArray) (hl : l.length ≤ 1048577) (d : Nat) : ∀ (i : Nat), i + d = l.length → ∀ k, d < k → laws_sameTexts.l0 k l l i = some true := by
  induction d with
  | zero =>
    intro i hi k hk
    obtain ⟨k, rfl⟩ := succ_of hk
    simp (disch := omega) only [laws_sameTexts.l0, if_neg]
  | succ d ih =>
    intro i hi k hk
    obtain ⟨k, rfl⟩ := succ_of hk
    simp (disch := omega) only [laws_sameTexts.l0, if_pos, w64, cast1]
    exact ih (i + 1) (by omega) k (by omega)

theorem same_f (l : List ByteArray) (hl : l.length ≤ 1048577) (k : Nat) (hk : l.length < k) : laws_sameTexts.f k l l = some true := by
  simp only [laws_sameTexts.f, if_true]
  exact same_loop l hl l.length 0 (by omega) k hk

theorem list_loop (l : List Int) (hl : l.length * 1 ≤ 140737488351232) (n : Nat) (hn : n ≤ 100) (d : Nat) : ∀ (i : Nat) (out : List ByteArray) (c h : Int), i + d = n → out.length = i → 0 ≤ c → c ≤ l.length →
    ∃ xs j z, (∀ k, d < k → spec_l2List.l0 k out n i l c h = some (xs, j, z)) ∧ xs.length = n ∧ 0 ≤ j ∧ j ≤ l.length := by
  induction d with
  | zero =>
    intro i out c h hi ho h0 h1
    refine ⟨out, c, h, fun k hk => ?_, by omega, h0, h1⟩
    obtain ⟨k, rfl⟩ := succ_of hk
    simp (disch := omega) only [spec_l2List.l0, if_neg]
  | succ d ih =>
    intro i out c h hi ho h0 h1
    obtain ⟨s, j, z, e, _, j0, j1⟩ := pick_f l c h h0 h1 hl [(⟨#[97]⟩ : ByteArray), (⟨#[98]⟩ : ByteArray), (⟨#[99]⟩ : ByteArray), (⟨#[120]⟩ : ByteArray), (⟨#[97, 49]⟩ : ByteArray)] (by simp) (by simp)
    obtain ⟨xs, j', z', e', h3, h4, h5⟩ := ih (i + 1) (out ++ [s]) j z (by omega) (by simp; omega) j0 j1
    refine ⟨xs, j', z', fun k hk => ?_, h3, h4, h5⟩
    obtain ⟨k, rfl⟩ := succ_of hk
    simp (disch := omega) only [spec_l2List.l0, if_pos, e, Option.bind_some, w64, cast1]
    exact e' k (by omega)

theorem list_f (l : List Int) (hl : l.length * 1 ≤ 140737488351232) (c h : Int) (h0 : 0 ≤ c) (h1 : c ≤ l.length) :
    ∃ xs j z, (∀ k, 10 < k → spec_l2List.f k l c h = some (xs, j, z)) ∧ xs.length ≤ 5 ∧ 0 ≤ j ∧ j ≤ l.length := by
  obtain ⟨n, j, z, e, n0, n1, j0, j1⟩ := below_f l c h 5 h0 h1 hl (by omega) (by omega)
  obtain ⟨n, rfl⟩ := Int.eq_ofNat_of_zero_le n0
  obtain ⟨xs, j', z', e', h3, h4, h5⟩ := list_loop l hl n (by omega) n 0 [] j z (by omega) rfl j0 j1
  refine ⟨xs, j', z', fun k hk => ?_, by omega, h4, h5⟩
  simp only [spec_l2List.f, e, Option.bind_some]
  exact e' k (by omega)

theorem dIndex_f (l : List Int) (hl : l.length * 1 ≤ 140737488351232) : ∃ xs s, (∀ k, l.length + 10 < k → spec_DrawIndexOf.f k l = some (xs, s)) ∧ xs.length ≤ 5 := by
  obtain ⟨z, hz⟩ := new_f l hl
  obtain ⟨xs, j, z', e, h1, j0, j1⟩ := list_f l hl 0 z (by omega) (by omega)
  obtain ⟨s, j2, z2, e2, _, _, _⟩ := pick_f l j z' j0 j1 hl [(⟨#[97]⟩ : ByteArray), (⟨#[120]⟩ : ByteArray), (⟨#[113]⟩ : ByteArray)] (by simp) (by simp)
  refine ⟨xs, s, fun k hk => ?_, h1⟩
  simp only [spec_DrawIndexOf.f, hz k (by omega), Option.bind_some, e k (by omega), e2]

theorem dAsc_f (l : List Int) (hl : l.length * 1 ≤ 140737488351232) : ∃ xs, (∀ k, l.length + 10 < k → spec_DrawAreAscending.f k l = some xs) ∧ xs.length ≤ 5 := by
  obtain ⟨z, hz⟩ := new_f l hl
  obtain ⟨xs, j, z', e, h1, j0, j1⟩ := list_f l hl 0 z (by omega) (by omega)
  refine ⟨xs, fun k hk => ?_, h1⟩
  simp only [spec_DrawAreAscending.f, hz k (by omega), Option.bind_some, e k (by omega)]

theorem dName_f (l : List Int) (hl : l.length * 1 ≤ 140737488351232) : ∃ s, (∀ k, l.length < k → spec_DrawIsName.f k l = some s) ∧ s.size ≤ 100 := by
  obtain ⟨z, hz⟩ := new_f l hl
  obtain ⟨s, j2, z2, e2, hm, _, _⟩ := pick_f l 0 z (by omega) (by omega) hl [(⟨#[120]⟩ : ByteArray), (⟨#[120, 49]⟩ : ByteArray), (⟨#[49, 120]⟩ : ByteArray), (⟨#[88]⟩ : ByteArray), (⟨#[97, 98, 99, 100]⟩ : ByteArray), (⟨#[97, 98, 99, 100, 101]⟩ : ByteArray), (⟨#[]⟩ : ByteArray), (⟨#[97, 45]⟩ : ByteArray)] (by simp) (by simp)
  refine ⟨s, fun k hk => ?_, ?_⟩
  · simp only [spec_DrawIsName.f, hz k hk, Option.bind_some, e2]
  · simp only [List.mem_cons, List.not_mem_nil, or_false] at hm
    rcases hm with rfl | rfl | rfl | rfl | rfl | rfl | rfl | rfl <;> decide

theorem insd_loop (l : List Int) (hl : l.length * 1 ≤ 140737488351232) (n : Nat) (hn : n ≤ 100) (d : Nat) : ∀ (i : Nat) (out : List ByteArray) (c h : Int), i + d = n → out.length ≤ i → 0 ≤ c → c ≤ l.length →
    ∃ xs s, (∀ k, d + 110 < k → spec_DrawInsertName.l0 k out n i l c h = some (xs, s)) ∧ xs.length ≤ n := by
  induction d with
  | zero =>
    intro i out c h hi ho h0 h1
    obtain ⟨s, j, z, e, _, _, _⟩ := pick_f l c h h0 h1 hl [(⟨#[97]⟩ : ByteArray), (⟨#[98]⟩ : ByteArray), (⟨#[100]⟩ : ByteArray), (⟨#[122]⟩ : ByteArray)] (by simp) (by simp)
    refine ⟨out, s, fun k hk => ?_, by omega⟩
    obtain ⟨k, rfl⟩ := succ_of hk
    simp (disch := omega) only [spec_DrawInsertName.l0, if_neg, e, Option.bind_some]
  | succ d ih =>
    intro i out c h hi ho h0 h1
    obtain ⟨s, j, z, e, _, j0, j1⟩ := pick_f l c h h0 h1 hl [(⟨#[97]⟩ : ByteArray), (⟨#[98]⟩ : ByteArray), (⟨#[99]⟩ : ByteArray), (⟨#[120]⟩ : ByteArray)] (by simp) (by simp)
    have hle := ins_len s out
    obtain ⟨xs, s', e', h3⟩ := ih (i + 1) (ins s out) j z (by omega) (by omega) j0 j1
    refine ⟨xs, s', fun k hk => ?_, h3⟩
    obtain ⟨k, rfl⟩ := succ_of hk
    have e3 := (ins_f out s (by omega) k (by omega)).1
    simp (disch := omega) only [spec_DrawInsertName.l0, if_pos, e, e3, Option.bind_some, w64, cast1]
    exact e' k (by omega)

theorem dIns_f (l : List Int) (hl : l.length * 1 ≤ 140737488351232) : ∃ xs s, (∀ k, l.length + 120 < k → spec_DrawInsertName.f k l = some (xs, s)) ∧ xs.length ≤ 5 := by
  obtain ⟨z, hz⟩ := new_f l hl
  obtain ⟨n, j, z, e, n0, n1, j0, j1⟩ := below_f l 0 z 4 (by omega) (by omega) hl (by omega) (by omega)
  obtain ⟨n, rfl⟩ := Int.eq_ofNat_of_zero_le n0
  obtain ⟨xs, s, e', h3⟩ := insd_loop l hl n (by omega) n 0 [] j z (by omega) (by simp) j0 j1
  refine ⟨xs, s, fun k hk => ?_, by omega⟩
  simp only [spec_DrawInsertName.f, hz k (by omega), Option.bind_some, e]
  exact e' k (by omega)

theorem names_half (x : List ByteArray) (a : ByteArray) (hx : x.length ≤ 5) (k : Nat) (hk : 200 < k) : laws_FnNames.j0 k x a (ins a x) false = some true := by
  obtain ⟨k, rfl⟩ := succ_of hk
  have hl := ins_len a x
  have hw := wo_len a x
  have e1 := (asc_f x (by omega) k (by omega)).2
  have e2 := (asc_f (ins a x) (by omega) k (by omega)).2
  have e3 := (idx_f (ins a x) a (by omega) k (by omega)).2
  have e4 := (wo_f (ins a x) a (by omega) k (by omega)).2
  have e5 := (wo_f x a (by omega) k (by omega)).2
  have e6 := same_f (wo a x) (by omega) k (by omega)
  simp only [laws_FnNames.j0, Bool.false_eq_true, if_false, e1, Option.bind_some]
  by_cases c : asc x = true
  · rw [if_pos c, e2]
    simp only [Option.bind_some]
    rw [if_pos (asc_ins a x c), e3]
    simp only [Option.bind_some]
    rw [if_pos (idx_mem a _ (ins_mem a x) 0), e4, wo_ins, e5]
    simp only [Option.bind_some, e6]
  · rw [if_neg c]

theorem FnNames : laws_FnNames.Pure := by
  intro l0 q0 q1 q2
  by_cases hb : laws_big.f l0 = some true
  · exact ⟨1, by simp only [laws_FnNames.f, hb, Option.bind_some, if_true]⟩
  have hb' : laws_big.f l0 = some false := by
    revert hb
    unfold laws_big.f
    cases decide ((l0.length : Int) > 1048576) <;> simp
  obtain ⟨x, a, d1, hx⟩ := dIns_f l0 q1
  obtain ⟨y, b, d2, hy⟩ := dIndex_f l0 q1
  obtain ⟨c, d3, hc⟩ := dAsc_f l0 q1
  obtain ⟨n, d4, hn⟩ := dName_f l0 q1
  have hl := ins_len a x
  have hw := wo_len b y
  obtain ⟨k, hk⟩ : ∃ k, k = l0.length + 1000 := ⟨_, rfl⟩
  refine ⟨k, ?_⟩
  have d1 := d1 k (by omega)
  have d2 := d2 k (by omega)
  have d3 := d3 k (by omega)
  have d4 := d4 k (by omega)
  have e1 := ins_f x a (by omega) k (by omega)
  have e2 := idx_f y b (by omega) k (by omega)
  have e3 := asc_f c (by omega) k (by omega)
  have e4 := wo_f y b (by omega) k (by omega)
  have e5 := name_spec n (by omega) k (by omega)
  have e6 := name_impl n (by omega) k (by omega)
  have e7 := same_f (ins a x) (by omega) k (by omega)
  have e8 := same_f (wo b y) (by omega) k (by omega)
  have e9 := names_half x a hx k (by omega)
  have d5 : spec_DrawWithoutName.f k l0 = some (y, b) := by simp only [spec_DrawWithoutName.f, d2, Option.bind_some]
  simp only [laws_FnNames.f, hb', Option.bind_some, Bool.false_eq_true, if_false, d1, d2, d3, d4, d5, e1.1, e1.2, e2.1, e2.2, e3.1, e3.2, e4.1, e4.2, e5, e6, e7, e8, if_true, bne_self_eq_false, e9]

end Go.Proofs.Yteagmmcglbcifaa.Pure
