/- The program's InsertName answers as the reference's, in memory of its own, and leaves its list alone, for every list of strings and every string: no condition. -/
import Derived.Test.YteagmmcglbcifaaXAx7
import Derived.Test.YteagmmcglbcifaaXAxk
namespace Go.Proofs.Yteagmmcglbcifaa.Pure
open Go.RowKit Go.Proofs.Yteagmmcglbcifaa.XA Go.Proofs.YteagmmcglbcifaaW.PrintWords Go.Proofs.YteagmmcglbcifaaW.PrintLast

set_option linter.unusedSimpArgs false
set_option linter.unusedVariables false

theorem w64 {n : Int} (h : -9223372036854775808 ≤ n) (h' : n ≤ 9223372036854775807) : wrap64 n = n := by unfold wrap64; omega
theorem cast1 (i : Nat) : (i : Int) + 1 = ((i + 1 : Nat) : Int) := by omega
theorem succ_of {d k : Nat} (h : d < k) : ∃ m, k = m + 1 := ⟨k - 1, by omega⟩

theorem rd_at (l : List ByteArray) (i : Nat) (h : i < l.length) : rdOf ByteArray.empty l (i : Int) = l[i] := by
  simp [rdOf, h]

/-- How many bytes the strings have together. -/
def tot (l : List ByteArray) : Nat := (l.map ByteArray.size).sum

theorem tot_cons (p : ByteArray) (l : List ByteArray) : tot (p :: l) = p.size + tot l := by simp only [tot, List.map_cons, List.sum_cons]

theorem tot_drop (l : List ByteArray) (i : Nat) (h : i < l.length) : tot (l.drop i) = l[i].size + tot (l.drop (i + 1)) := by
  rw [List.drop_eq_getElem_cons h, tot_cons]

theorem sz_loop (l : List ByteArray) (hl : l.length ≤ maxLen) (hs : ∀ s ∈ l, s.size ≤ maxLen) (d : Nat) : ∀ (i : Nat) (left : Int), i + d = l.length → 0 ≤ left → left ≤ 1048576 →
    ∃ r, (∀ k, d < k → laws_szStringS.l0 k l left i = some r) ∧ (r < 0 ∨ 0 ≤ r ∧ (tot (l.drop i) : Int) + r = left) := by
  simp only [maxLen] at hl hs
  induction d with
  | zero =>
    intro i left hi h0 h1
    refine ⟨left, fun k hk => ?_, .inr ⟨h0, ?_⟩⟩
    · obtain ⟨k, rfl⟩ := succ_of hk
      simp (disch := omega) only [laws_szStringS.l0, if_neg]
    · rw [List.drop_of_length_le (by omega)]; simp [tot]
  | succ d ih =>
    intro i left hi h0 h1
    have hlt : i < l.length := by omega
    have hz := hs l[i] (List.getElem_mem hlt)
    by_cases hneg : left - (l[i].size : Int) < 0
    · refine ⟨-1, fun k hk => ?_, .inl (by omega)⟩
      obtain ⟨k, rfl⟩ := succ_of hk
      simp (disch := omega) only [laws_szStringS.l0, rd_at, w64, if_pos]
    · obtain ⟨r, h2, h3⟩ := ih (i + 1) (left - (l[i].size : Int)) (by omega) (by omega) (by omega)
      refine ⟨r, fun k hk => ?_, ?_⟩
      · obtain ⟨k, rfl⟩ := succ_of hk
        simp (disch := omega) only [laws_szStringS.l0, rd_at, w64, if_pos, if_neg, cast1]
        exact h2 k (by omega)
      · rcases h3 with h3 | ⟨h3, h4⟩
        · exact .inl h3
        · refine .inr ⟨h3, ?_⟩
          rw [tot_drop l i hlt]; omega

theorem sz_g (l : List ByteArray) (hl : l.length ≤ maxLen) (hs : ∀ s ∈ l, s.size ≤ maxLen) (left : Int) (g0 : 0 ≤ left) (g1 : left ≤ 1048576) :
    ∃ r, (∀ k, l.length < k → laws_szStringS.f k l left = some r) ∧ (r < 0 ∨ 0 ≤ r ∧ (l.length : Int) + tot l + r = left) := by
  have hl' := hl
  simp only [maxLen] at hl'
  by_cases hneg : left - (l.length : Int) < 0
  · refine ⟨-1, fun k _ => ?_, .inl (by omega)⟩
    simp (disch := omega) only [laws_szStringS.f, w64, if_pos]
  · obtain ⟨r, h2, h3⟩ := sz_loop l hl hs l.length 0 (left - (l.length : Int)) (by omega) (by omega) (by omega)
    refine ⟨r, fun k hk => ?_, ?_⟩
    · simp (disch := omega) only [laws_szStringS.f, w64, if_neg]; exact h2 k hk
    · rcases h3 with h3 | ⟨h3, h4⟩
      · exact .inl h3
      · refine .inr ⟨h3, ?_⟩
        rw [List.drop_zero] at h4; omega

theorem sz_f (l : List ByteArray) (hl : l.length ≤ maxLen) (hs : ∀ s ∈ l, s.size ≤ maxLen) :
    ∃ r, (∀ k, l.length < k → laws_szStringS.f k l 1048576 = some r) ∧ (r < 0 ∨ 0 ≤ r ∧ l.length + tot l ≤ 1048576) := by
  obtain ⟨r, h1, h2⟩ := sz_g l hl hs 1048576 (by omega) (by omega)
  refine ⟨r, h1, ?_⟩
  rcases h2 with h2 | ⟨h2, h3⟩
  · exact .inl h2
  · exact .inr ⟨h2, by omega⟩

theorem tot_mem (r : List ByteArray) (p : ByteArray) (h : p ∈ r) : p.size ≤ tot r := by
  induction r with
  | nil => simp at h
  | cons q r ih =>
    have e := tot_cons q r
    rcases List.mem_cons.1 h with rfl | h
    · omega
    · have := ih h; omega

theorem to_loop (l : List ByteArray) (hl : l.length ≤ 1048576) (d : Nat) : ∀ (i k : Nat), i + d = l.length → d < k →
    laws_toStringS.l0 k l (l.take i ++ List.replicate d (⟨#[]⟩ : ByteArray)) i = some l := by
  induction d with
  | zero =>
    intro i k hi hk
    obtain ⟨k, rfl⟩ := succ_of hk
    simp (disch := omega) only [laws_toStringS.l0, if_neg]
    rw [List.take_of_length_le (by omega)]; simp
  | succ d ih =>
    intro i k hi hk
    obtain ⟨k, rfl⟩ := succ_of hk
    have hlt : i < l.length := by omega
    have hq : (i : Int) < ((l.take i ++ List.replicate (d + 1) (⟨#[]⟩ : ByteArray)).length : Int) := by simp; omega
    have e : (l.take i ++ List.replicate (d + 1) (⟨#[]⟩ : ByteArray)).set i l[i] = l.take (i + 1) ++ List.replicate d (⟨#[]⟩ : ByteArray) := by
      have ht : (l.take i).length = i := by rw [List.length_take]; omega
      rw [List.set_append_right _ _ (by omega), ht, Nat.sub_self, List.replicate_succ, List.set_cons_zero, List.take_succ_eq_append_getElem hlt, List.append_assoc]; rfl
    simp (disch := omega) only [laws_toStringS.l0, rd_at, w64, if_pos, cast1, Int.toNat_natCast, if_pos hq, e]
    exact ih (i + 1) k (by omega) (by omega)

theorem to_f (l : List ByteArray) (hl : l.length ≤ 1048576) (k : Nat) (hk : l.length < k) : laws_toStringS.f k l = some l := by
  simp (disch := omega) only [laws_toStringS.f, if_pos]
  have := to_loop l hl l.length 0 k (by omega) hk
  simpa using this

theorem eq_loop (l : List ByteArray) (hl : l.length ≤ 1099511627776) (d : Nat) : ∀ (i k : Nat), i + d = l.length → d < k → laws_eqStringS.l0 k l l i = some true := by
  induction d with
  | zero =>
    intro i k hi hk
    obtain ⟨k, rfl⟩ := succ_of hk
    simp (disch := omega) only [laws_eqStringS.l0, if_neg]
  | succ d ih =>
    intro i k hi hk
    obtain ⟨k, rfl⟩ := succ_of hk
    simp (disch := omega) only [laws_eqStringS.l0, if_pos, w64, cast1, if_true]
    exact ih (i + 1) k (by omega) (by omega)

theorem eq_f (l : List ByteArray) (hl : l.length ≤ 1099511627776) (k : Nat) (hk : l.length < k) : laws_eqStringS.f k l l = some true := by
  simp only [laws_eqStringS.f, if_true]
  exact eq_loop l hl l.length 0 k (by omega) hk

/-- A list with a string put in at its place, from the i-th place on. -/
def ins (a : ByteArray) : List ByteArray → List ByteArray
  | [] => [a]
  | x :: xs => if (Op.bytesLess x.toList a.toList) = true then x :: ins a xs else if x.toList = a.toList then x :: xs else a :: x :: xs

theorem ins_len (a : ByteArray) (l : List ByteArray) : (ins a l).length ≤ l.length + 1 := by
  induction l with
  | nil => simp [ins]
  | cons x xs ih =>
    simp only [ins]
    split
    · simp only [List.length_cons]; omega
    · split <;> simp only [List.length_cons] <;> omega

theorem ins_j (l : List ByteArray) (a : ByteArray) (hl : l.length ≤ 1048577) (i : Nat) (hi : i ≤ l.length) (h : ∀ hlt : i < l.length, ¬ (Op.bytesLess l[i].toList a.toList) = true) (k : Nat) (hk : 1 < k) : impl_InsertName.j1 k l a i = some (l.take i ++ ins a (l.drop i)) := by
  obtain ⟨k, rfl⟩ : ∃ m, k = m + 2 := ⟨k - 2, by omega⟩
  have lt1 : (l.take i).length = i := by rw [List.length_take]; omega
  have ld1 : (l.drop i).length = l.length - i := by rw [List.length_drop]
  have c1 : ([] : List ByteArray).length + (l.take i).length < 8796093022208 := by rw [lt1]; simp; omega
  have c2 : (l.take i).length < 8796093022208 := by rw [lt1]; omega
  have c4 : ((l.take i) ++ [a]).length + (l.drop i).length < 8796093022208 := by rw [List.length_append, lt1, ld1]; simp; omega
  have c3 : ([] : List ByteArray).length + l.length < 8796093022208 := by simp; omega
  by_cases hlt : i < l.length
  · have hd := List.drop_eq_getElem_cons hlt
    by_cases g : l[i].toList = a.toList
    · have e : l.take i ++ ins a (l.drop i) = l := by
        rw [hd, ins, if_neg (h hlt), if_pos g, ← hd, List.take_append_drop]
      have gb : (l[i].toList == a.toList) = true := by simp [g]
      rw [e]
      simp (disch := omega) only [impl_InsertName.j1, impl_InsertName.j2, impl_cloneStrings.f, rd_at, if_pos, gb, if_true, if_pos c3, Option.bind_some, List.nil_append]
    · have e : l.take i ++ ins a (l.drop i) = ((l.take i) ++ [a]) ++ l.drop i := by
        rw [hd, ins, if_neg (h hlt), if_neg g, List.append_assoc]; rfl
      have gb : (l[i].toList == a.toList) = false := by simp [g]
      rw [e]
      simp (disch := omega) only [impl_InsertName.j1, impl_InsertName.j2, impl_cloneStrings.f, rd_at, if_pos, gb, Bool.false_eq_true, if_false, Int.toNat_natCast, if_pos c1, if_pos c2, if_pos c4, Option.bind_some, List.nil_append]
  · have e : l.drop i = [] := List.drop_of_length_le (by omega)
    rw [e] at c4 ⊢
    simp (disch := omega) only [impl_InsertName.j1, impl_InsertName.j2, impl_cloneStrings.f, if_neg, if_pos, Bool.false_eq_true, if_false, Int.toNat_natCast, if_pos c1, if_pos c2, e, if_pos c4, Option.bind_some, List.nil_append, List.append_nil, ins]

theorem ins_s (l : List ByteArray) (a : ByteArray) (hl : l.length ≤ 1048577) (i : Nat) (hi : i ≤ l.length) (h : ∀ hlt : i < l.length, ¬ (Op.bytesLess l[i].toList a.toList) = true) (k : Nat) (hk : 1 < k) : spec_InsertName.l0 k l a i = some (l.take i ++ ins a (l.drop i)) := by
  obtain ⟨k, rfl⟩ := succ_of (show 0 < k by omega)
  have lt1 : (l.take i).length = i := by rw [List.length_take]; omega
  have ld1 : (l.drop i).length = l.length - i := by rw [List.length_drop]
  have c1 : ([] : List ByteArray).length + (l.take i).length < 8796093022208 := by rw [lt1]; simp; omega
  have c2 : (l.take i).length < 8796093022208 := by rw [lt1]; omega
  have c5 : (l.take i).length + (l.drop i).length < 8796093022208 := by rw [lt1, ld1]; omega
  have c4 : ((l.take i) ++ [a]).length + (l.drop i).length < 8796093022208 := by rw [List.length_append, lt1, ld1]; simp; omega
  by_cases hlt : i < l.length
  · have hd := List.drop_eq_getElem_cons hlt
    by_cases g : l[i].toList = a.toList
    · have e : l.take i ++ ins a (l.drop i) = l := by
        rw [hd, ins, if_neg (h hlt), if_pos g, ← hd, List.take_append_drop]
      rw [e]
      simp (disch := omega) only [spec_InsertName.l0, rd_at, if_pos, if_neg (h hlt), if_neg, if_pos g, Option.bind_some, Int.toNat_natCast, List.nil_append, if_pos c1, if_pos c5, List.take_append_drop]
    · have e : l.take i ++ ins a (l.drop i) = ((l.take i) ++ [a]) ++ l.drop i := by
        rw [hd, ins, if_neg (h hlt), if_neg g, List.append_assoc]; rfl
      rw [e]
      simp (disch := omega) only [spec_InsertName.l0, rd_at, if_pos, if_neg (h hlt), if_neg, if_neg g, Option.bind_some, Int.toNat_natCast, List.nil_append, if_pos c1, if_pos c2, if_pos c4]
  · have e : l.drop i = [] := List.drop_of_length_le (by omega)
    have ei : (i : Int) = (l.length : Int) := by omega
    rw [e] at c4 ⊢
    simp (disch := omega) only [spec_InsertName.l0, if_neg, if_pos, if_pos ei, Option.bind_some, Int.toNat_natCast, List.nil_append, if_pos c1, if_pos c2, e, if_pos c4, List.append_nil, ins]

theorem ins_f (l : List ByteArray) (a : ByteArray) (hl : l.length ≤ 1048577) (k : Nat) (hk : l.length + 3 < k) : spec_InsertName.f k l a = some (ins a l) ∧ impl_InsertName.f k l a = some (ins a l) := by
  have loop : ∀ d i, i + d = l.length → ∀ k, d + 3 < k → spec_InsertName.l0 k l a i = some (l.take i ++ ins a (l.drop i)) ∧ impl_InsertName.l0 k l a i = some (l.take i ++ ins a (l.drop i)) := by
    intro d
    induction d with
    | zero =>
      intro i hi k hk
      refine ⟨ins_s l a hl i (by omega) (fun h => absurd h (by omega)) k (by omega), ?_⟩
      have J := ins_j l a hl i (by omega) (fun h => absurd h (by omega))
      obtain ⟨k, rfl⟩ := succ_of (show 0 < k by omega)
      have J' := J k (by omega)
      simp (disch := omega) only [impl_InsertName.l0, if_neg, J']
    | succ d ih =>
      intro i hi k hk
      have hlt : i < l.length := by omega
      have hd := List.drop_eq_getElem_cons hlt
      have ht : l.take i ++ [l[i]] = l.take (i + 1) := by rw [List.take_succ_eq_append_getElem hlt]
      by_cases h : (Op.bytesLess l[i].toList a.toList) = true
      · obtain ⟨k, rfl⟩ := succ_of (show 0 < k by omega)
        obtain ⟨r1, r2⟩ := ih (i + 1) (by omega) k (by omega)
        have e : l.take i ++ ins a (l.drop i) = l.take (i + 1) ++ ins a (l.drop (i + 1)) := by
          rw [hd, ins, if_pos h, ← ht, List.append_assoc]; rfl
        rw [e]
        simp (disch := omega) only [spec_InsertName.l0, impl_InsertName.l0, rd_at, if_pos, if_pos h, w64, cast1, r1, r2, and_self]
      · refine ⟨ins_s l a hl i (by omega) (fun _ => h) k (by omega), ?_⟩
        have J := ins_j l a hl i (by omega) (fun _ => h)
        obtain ⟨k, rfl⟩ := succ_of (show 0 < k by omega)
        have J' := J k (by omega)
        simp (disch := omega) only [impl_InsertName.l0, rd_at, if_pos, if_neg h, J']
  have h := loop l.length 0 (by omega) k (by omega)
  simp only [List.drop_zero, List.take_zero, List.nil_append, Int.natCast_zero] at h
  exact h

theorem mark_loop0 (d : Nat) : ∀ (n : Nat) (out : ByteArray), n < 10 ^ d → d + out.size ≤ 1000 → n ≤ 9223372036854775807 → ∃ s, ∀ k, d < k → laws_markText.l0 k (n : Int) out = some s := by
  induction d with
  | zero =>
    intro n out h hz hn
    refine ⟨(⟨#[109]⟩ : ByteArray) ++ out, fun k hk => ?_⟩
    obtain ⟨k, rfl⟩ : ∃ m, k = m + 1 := ⟨k - 1, by omega⟩
    simp only [laws_markText.l0]
    rw [if_neg (by omega), if_pos (by omega)]
  | succ d ih =>
    intro n out h hz hn
    by_cases h0 : n = 0
    · refine ⟨(⟨#[109]⟩ : ByteArray) ++ out, fun k hk => ?_⟩
      obtain ⟨k, rfl⟩ : ∃ m, k = m + 1 := ⟨k - 1, by omega⟩
      simp only [laws_markText.l0]
      rw [if_neg (by omega), if_pos (by omega)]
    · obtain ⟨s, hs⟩ := ih (n / 10) (strOfNums [(wrap64 (48 + (Int.tmod (n : Int) 10))) % 256] ++ out) (by rw [Nat.pow_succ] at h; omega) (by rw [ByteArray.size_append, strOfNums_size]; simp; omega) (by omega)
      refine ⟨s, fun k hk => ?_⟩
      obtain ⟨k, rfl⟩ : ∃ m, k = m + 1 := ⟨k - 1, by omega⟩
      simp only [laws_markText.l0]
      have e : wrap64 (Int.tdiv (n : Int) 10) = ((n / 10 : Nat) : Int) := by rw [Int.tdiv_eq_ediv_of_nonneg (by omega)]; unfold wrap64; omega
      rw [if_pos (by omega)]
      simp only [Option.bind_some]
      rw [if_pos (by rw [strOfNums_size]; simp; omega), e]
      exact hs k (by omega)

theorem mark_text (m : Int) (h : m ≤ 9223372036854775807) : ∃ s, ∀ k, 40 < k → laws_markText.f k m = some s := by
  by_cases h0 : m ≤ 0
  · exact ⟨_, fun k _ => by simp only [laws_markText.f]; rw [if_pos h0]⟩
  · obtain ⟨n, rfl⟩ := Int.eq_ofNat_of_zero_le (show 0 ≤ m by omega)
    obtain ⟨s, hs⟩ := mark_loop0 20 n ⟨#[]⟩ (by omega) (by decide) (by omega)
    exact ⟨s, fun k hk => by simp only [laws_markText.f]; rw [if_neg h0]; exact hs k (by omega)⟩

theorem mark_loop (d : Nat) : ∀ (i : Nat) (m : Int) (l : List ByteArray), i + d = l.length → 1 ≤ m → m + d ≤ 1099511627776 → l.length ≤ 1099511627776 →
    ∃ l', (∀ k, d + 50 < k → laws_markStringS.l0 k l m i = some (m + d, l')) ∧ (∀ k, d + 50 < k → laws_heldStringS.l0 k l' m i = some (m + d)) ∧ l'.length = l.length ∧ l'.take i = l.take i := by
  induction d with
  | zero =>
    intro i m l hi h1 h2 h3
    refine ⟨l, fun k hk => ?_, fun k hk => ?_, rfl, rfl⟩ <;> obtain ⟨k, rfl⟩ : ∃ m, k = m + 1 := ⟨k - 1, by omega⟩
    · simp only [laws_markStringS.l0]; rw [if_neg (by omega)]; simp
    · simp only [laws_heldStringS.l0]; rw [if_neg (by omega)]; simp
  | succ d ih =>
    intro i m l hi h1 h2 h3
    have hlt : i < l.length := by omega
    obtain ⟨s, hs⟩ := mark_text m (by omega)
    have hw1 : wrap64 ((i : Int) + 1) = ((i + 1 : Nat) : Int) := by unfold wrap64; omega
    have hw2 : wrap64 (m + 1) = m + 1 := by unfold wrap64; omega
    obtain ⟨l', a, b, c, e⟩ := ih (i + 1) (m + 1) (l.set i s) (by simp; omega) (by omega) (by omega) (by simpa using h3)
    have hm : m + 1 + (d : Int) = m + ((d + 1 : Nat) : Int) := by omega
    have hlt' : i < l'.length := by rw [c]; simpa using hlt
    have hget : l'[i] = s := by
      have h4 := congrArg (fun x => x[i]?) e
      simp only [List.getElem?_take] at h4
      rw [if_pos (by omega), if_pos (by omega), List.getElem?_eq_getElem hlt', List.getElem?_set_self hlt] at h4
      exact Option.some.inj h4
    refine ⟨l', fun k hk => ?_, fun k hk => ?_, by simpa using c, ?_⟩
    · obtain ⟨k, rfl⟩ : ∃ m, k = m + 1 := ⟨k - 1, by omega⟩
      simp only [laws_markStringS.l0]
      rw [if_pos (by omega), hs k (by omega)]
      simp only [Option.bind_some]
      rw [if_pos (by omega), hw1, hw2, Int.toNat_natCast, ← hm]
      exact a k (by omega)
    · obtain ⟨k, rfl⟩ : ∃ m, k = m + 1 := ⟨k - 1, by omega⟩
      simp only [laws_heldStringS.l0]
      have hr : rdOf ByteArray.empty l' (i : Int) = s := by simp [rdOf, hlt', hget]
      rw [if_pos (by omega), if_pos (by omega), hs k (by omega)]
      simp only [Option.bind_some]
      rw [hr, if_pos rfl, hw1, hw2, ← hm]
      exact b k (by omega)
    · have h4 := congrArg (List.take i) e
      rw [List.take_take, List.take_take, Nat.min_eq_left (by omega), List.take_set_of_le (by omega)] at h4
      exact h4

/-- A list of strings is marked, and then held. -/
theorem mark_f (l : List ByteArray) (hl : l.length ≤ 1073741824) : ∃ l', (∀ k, l.length + 50 < k → laws_markStringS.f k l 1 = some (1 + (l.length : Int), l')) ∧ (∀ k, l.length + 50 < k → laws_heldStringS.f k l' 1 = some (1 + (l.length : Int))) ∧ l'.length = l.length := by
  obtain ⟨l', a, b, c, _⟩ := mark_loop l.length 0 1 l (by omega) (by omega) (by omega) (by omega)
  exact ⟨l', a, b, c⟩

theorem FnExactInsertName (l0 : List ByteArray) (o0 : l0.length ≤ maxLen) (q0 : ∀ s ∈ l0, s.size ≤ maxLen) (a1 : ByteArray) (o1 : a1.size ≤ 140737488351232) : ∃ k, laws_FnExactInsertName.f k l0 a1 = some true := by
  by_cases hbig : (a1.size : Int) > 1048576
  · exact ⟨0, by simp only [laws_FnExactInsertName.f]; rw [if_pos hbig]⟩
  obtain ⟨r, hr, h⟩ := sz_f l0 o0 q0
  rcases h with h | ⟨h0, h1⟩
  · refine ⟨l0.length + 1, ?_⟩
    simp only [laws_FnExactInsertName.f]
    rw [if_neg hbig, hr _ (by omega)]
    simp only [Option.bind_some, if_pos h]
  · have hl := ins_len a1 l0
    have hn : l0.length ≤ 1048576 := by omega
    obtain ⟨l', m1, m2, m3⟩ := mark_f l0 (by omega)
    obtain ⟨l2, n1, n2, n3⟩ := mark_f (ins a1 l0) (by omega)
    have e1 := hr (l0.length + 102) (by omega)
    have e2 := to_f l0 (by omega) (l0.length + 102) (by omega)
    have e2' := to_f l0 (by omega) (l0.length + 101) (by omega)
    obtain ⟨e3, e4⟩ := ins_f l0 a1 (by omega) (l0.length + 102) (by omega)
    obtain ⟨_, e4'⟩ := ins_f l0 a1 (by omega) (l0.length + 101) (by omega)
    have e5 := eq_f (ins a1 l0) (by omega) (l0.length + 102) (by omega)
    have e5' := eq_f (ins a1 l0) (by omega) (l0.length + 101) (by omega)
    have e6 := eq_f l0 (by omega) (l0.length + 102) (by omega)
    have e7 := m1 (l0.length + 102) (by omega)
    have e8 := n1 (l0.length + 101) (by omega)
    have e9 := n2 (l0.length + 101) (by omega)
    have g : ¬ (r < 0) := by omega
    have g1 : ¬ (1 + (l0.length : Int) < 0) := by omega
    have g2 : ¬ (1 + ((ins a1 l0).length : Int) < 0) := by omega
    refine ⟨l0.length + 102, ?_⟩
    simp only [laws_FnExactInsertName.f]
    rw [if_neg hbig, e1]
    simp only [Option.bind_some, if_neg g, e2, e3, e4, e5, e6, e7, if_true, if_neg g1, Bool.not_true]
    show laws_FnExactInsertName.j0 (l0.length + 101 + 1) _ _ _ _ false = _
    simp only [laws_FnExactInsertName.j0, Bool.false_eq_true, if_false, e8, e9, e2', e4', e5', Option.bind_some, if_neg g2, if_true]

end Go.Proofs.Yteagmmcglbcifaa.Pure
