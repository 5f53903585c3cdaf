/- The program's Join answers as the reference's and leaves its list alone, for every list of strings and every string: no condition. -/
import Derived.Test.YteagmmcglbcifaaXAx1
import Derived.Test.YteagmmcglbcifaaXAxk
namespace Go.Proofs.Yteagmmcglbcifaa.Pure
open Go.RowKit Go.Proofs.Yteagmmcglbcifaa.XA Go.Proofs.YteagmmcglbcifaaW.PrintWords Go.Proofs.YteagmmcglbcifaaW.PrintLast

set_option linter.unusedSimpArgs false
set_option linter.unusedVariables false

theorem w64 {n : Int} (h : -9223372036854775808 ≤ n) (h' : n ≤ 9223372036854775807) : wrap64 n = n := by unfold wrap64; omega
theorem cast1 (i : Nat) : (i : Int) + 1 = ((i + 1 : Nat) : Int) := by omega
theorem succ_of {d k : Nat} (h : d < k) : ∃ m, k = m + 1 := ⟨k - 1, by omega⟩

theorem rd_at (l : List ByteArray) (i : Nat) (h : i < l.length) : rdOf ByteArray.empty l (i : Int) = l[i] := by
  simp [rdOf, h]

/-- How many bytes the strings have together. -/
def tot (l : List ByteArray) : Nat := (l.map ByteArray.size).sum

theorem tot_cons (p : ByteArray) (l : List ByteArray) : tot (p :: l) = p.size + tot l := by simp only [tot, List.map_cons, List.sum_cons]

theorem tot_drop (l : List ByteArray) (i : Nat) (h : i < l.length) : tot (l.drop i) = l[i].size + tot (l.drop (i + 1)) := by
  rw [List.drop_eq_getElem_cons h, tot_cons]

theorem sz_loop (l : List ByteArray) (hl : l.length ≤ maxLen) (hs : ∀ s ∈ l, s.size ≤ maxLen) (d : Nat) : ∀ (i : Nat) (left : Int), i + d = l.length → 0 ≤ left → left ≤ 1048576 →
    ∃ r, (∀ k, d < k → laws_szStringS.l0 k l left i = some r) ∧ (r < 0 ∨ 0 ≤ r ∧ (tot (l.drop i) : Int) ≤ left) := by
  simp only [maxLen] at hl hs
  induction d with
  | zero =>
    intro i left hi h0 h1
    refine ⟨left, fun k hk => ?_, .inr ⟨h0, ?_⟩⟩
    · obtain ⟨k, rfl⟩ := succ_of hk
      simp (disch := omega) only [laws_szStringS.l0, if_neg]
    · rw [List.drop_of_length_le (by omega)]; simpa [tot] using h0
  | succ d ih =>
    intro i left hi h0 h1
    have hlt : i < l.length := by omega
    have hz := hs l[i] (List.getElem_mem hlt)
    by_cases hneg : left - (l[i].size : Int) < 0
    · refine ⟨-1, fun k hk => ?_, .inl (by omega)⟩
      obtain ⟨k, rfl⟩ := succ_of hk
      simp (disch := omega) only [laws_szStringS.l0, rd_at, w64, if_pos]
    · obtain ⟨r, h2, h3⟩ := ih (i + 1) (left - (l[i].size : Int)) (by omega) (by omega) (by omega)
      refine ⟨r, fun k hk => ?_, ?_⟩
      · obtain ⟨k, rfl⟩ := succ_of hk
        simp (disch := omega) only [laws_szStringS.l0, rd_at, w64, if_pos, if_neg, cast1]
        exact h2 k (by omega)
      · rcases h3 with h3 | ⟨h3, h4⟩
        · exact .inl h3
        · refine .inr ⟨h3, ?_⟩
          rw [tot_drop l i hlt]; omega

theorem sz_f (l : List ByteArray) (hl : l.length ≤ maxLen) (hs : ∀ s ∈ l, s.size ≤ maxLen) :
    ∃ r, (∀ k, l.length < k → laws_szStringS.f k l 1048576 = some r) ∧ (r < 0 ∨ 0 ≤ r ∧ l.length + tot l ≤ 1048576) := by
  have hl' := hl
  simp only [maxLen] at hl'
  by_cases hneg : 1048576 - (l.length : Int) < 0
  · refine ⟨-1, fun k _ => ?_, .inl (by omega)⟩
    simp (disch := omega) only [laws_szStringS.f, w64, if_pos]
  · obtain ⟨r, h2, h3⟩ := sz_loop l hl hs l.length 0 (1048576 - (l.length : Int)) (by omega) (by omega) (by omega)
    refine ⟨r, fun k hk => ?_, ?_⟩
    · simp (disch := omega) only [laws_szStringS.f, w64, if_neg]; exact h2 k hk
    · rcases h3 with h3 | ⟨h3, h4⟩
      · exact .inl h3
      · refine .inr ⟨h3, ?_⟩
        rw [List.drop_zero] at h4; omega

theorem to_loop (l : List ByteArray) (hl : l.length ≤ 1048576) (d : Nat) : ∀ (i k : Nat), i + d = l.length → d < k →
    laws_toStringS.l0 k l (l.take i ++ List.replicate d (⟨#[]⟩ : ByteArray)) i = some l := by
  induction d with
  | zero =>
    intro i k hi hk
    obtain ⟨k, rfl⟩ := succ_of hk
    simp (disch := omega) only [laws_toStringS.l0, if_neg]
    rw [List.take_of_length_le (by omega)]; simp
  | succ d ih =>
    intro i k hi hk
    obtain ⟨k, rfl⟩ := succ_of hk
    have hlt : i < l.length := by omega
    have hq : (i : Int) < ((l.take i ++ List.replicate (d + 1) (⟨#[]⟩ : ByteArray)).length : Int) := by simp; omega
    have e : (l.take i ++ List.replicate (d + 1) (⟨#[]⟩ : ByteArray)).set i l[i] = l.take (i + 1) ++ List.replicate d (⟨#[]⟩ : ByteArray) := by
      have ht : (l.take i).length = i := by rw [List.length_take]; omega
      rw [List.set_append_right _ _ (by omega), ht, Nat.sub_self, List.replicate_succ, List.set_cons_zero, List.take_succ_eq_append_getElem hlt, List.append_assoc]; rfl
    simp (disch := omega) only [laws_toStringS.l0, rd_at, w64, if_pos, cast1, Int.toNat_natCast, if_pos hq, e]
    exact ih (i + 1) k (by omega) (by omega)

theorem to_f (l : List ByteArray) (hl : l.length ≤ 1048576) (k : Nat) (hk : l.length < k) : laws_toStringS.f k l = some l := by
  simp (disch := omega) only [laws_toStringS.f, if_pos]
  have := to_loop l hl l.length 0 k (by omega) hk
  simpa using this

theorem eq_loop (l : List ByteArray) (hl : l.length ≤ 1099511627776) (d : Nat) : ∀ (i k : Nat), i + d = l.length → d < k → laws_eqStringS.l0 k l l i = some true := by
  induction d with
  | zero =>
    intro i k hi hk
    obtain ⟨k, rfl⟩ := succ_of hk
    simp (disch := omega) only [laws_eqStringS.l0, if_neg]
  | succ d ih =>
    intro i k hi hk
    obtain ⟨k, rfl⟩ := succ_of hk
    simp (disch := omega) only [laws_eqStringS.l0, if_pos, w64, cast1, if_true]
    exact ih (i + 1) k (by omega) (by omega)

theorem eq_f (l : List ByteArray) (hl : l.length ≤ 1099511627776) (k : Nat) (hk : l.length < k) : laws_eqStringS.f k l l = some true := by
  simp only [laws_eqStringS.f, if_true]
  exact eq_loop l hl l.length 0 k (by omega) hk

/-- What stands behind the first part of a joined list. -/
def jg (sep : List Int) : List ByteArray → List Int
  | [] => []
  | p :: q => sep ++ bytesOf p ++ jg sep q

/-- A list of strings, joined. -/
def join (sep : List Int) : List ByteArray → List Int
  | [] => []
  | p :: q => bytesOf p ++ jg sep q

theorem jg_length (sep : List Int) (l : List ByteArray) : (jg sep l).length = l.length * sep.length + tot l := by
  induction l with
  | nil => simp [jg, tot]
  | cons p q ih =>
    have e := tot_cons p q
    simp only [jg, List.length_append, List.length_cons, bytesOf_length, ih, e, Nat.add_mul]; omega

theorem join_loop (l : List ByteArray) (a : ByteArray) (hl : l.length ≤ 1048576) (d : Nat) : ∀ (i : Nat) (x : List Int), 1 ≤ i → i + d = l.length → x.length + (jg (bytesOf a) (l.drop i)).length < 140737488355328 →
    ∀ k, d < k → spec_Join.l0 k l a x i = some (strOfNums (x ++ jg (bytesOf a) (l.drop i))) ∧ impl_Join.l0 k a x l l.length i = some (strOfNums (x ++ jg (bytesOf a) (l.drop i))) := by
  induction d with
  | zero =>
    intro i x h1 hi hz k hk
    obtain ⟨k, rfl⟩ := succ_of hk
    simp (disch := omega) only [spec_Join.l0, impl_Join.l0, if_neg]
    rw [List.drop_of_length_le (by omega)]
    simp [jg]
  | succ d ih =>
    intro i x h1 hi hz k hk
    obtain ⟨k, rfl⟩ : ∃ m, k = m + 1 := ⟨k - 1, by omega⟩
    have hlt : i < l.length := by omega
    have hw1 : wrap64 ((i : Int) + 1) = ((i + 1 : Nat) : Int) := by unfold wrap64; omega
    have hd : l.drop i = l[i] :: l.drop (i + 1) := List.drop_eq_getElem_cons hlt
    rw [hd] at hz ⊢
    simp only [jg, List.length_append, bytesOf_length] at hz
    have := ih (i + 1) (x ++ bytesOf a ++ bytesOf l[i]) (by omega) (by omega) (by simp only [List.length_append, bytesOf_length]; omega) k (by omega)
    simp only [jg]
    have e1 : x.length + a.size < 140737488355328 := by omega
    have e2 : (x ++ bytesOf a).length + l[i].size < 140737488355328 := by simp only [List.length_append, bytesOf_length]; omega
    simp (disch := omega) only [spec_Join.l0, impl_Join.l0, rd_at, if_pos, if_pos e1, if_pos e2, hw1, Option.bind_some, this.1, this.2]
    simp

theorem join_f (l : List ByteArray) (a : ByteArray) (hl : l.length ≤ 1048576) (ha : a.size ≤ 1048576) (ht : tot l ≤ 1048576) (k : Nat) (hk : l.length < k) :
    spec_Join.f k l a = some (strOfNums (join (bytesOf a) l)) ∧ impl_Join.f k l a = some (strOfNums (join (bytesOf a) l)) := by
  simp only [spec_Join.f, impl_Join.f]
  obtain ⟨k, rfl⟩ : ∃ m, k = m + 1 := ⟨k - 1, by omega⟩
  cases l with
  | nil => simp [spec_Join.l0, impl_Join.l0, join]
  | cons p q =>
    have et := tot_cons p q
    have e : (q.length * (bytesOf a).length) ≤ 1048576 * 1048576 := Nat.mul_le_mul (by simp at hl; omega) (by rw [bytesOf_length]; exact ha)
    have hj := join_loop (p :: q) a hl q.length 1 (bytesOf p) (by omega) (by simp only [List.length_cons]; omega) (by simp only [List.drop_succ_cons, List.drop_zero, jg_length, bytesOf_length] at *; omega) k (by simp at hk; omega)
    simp only [List.drop_succ_cons, List.drop_zero] at hj
    have hw1 : wrap64 (0 + 1) = ((1 : Nat) : Int) := by unfold wrap64; omega
    have hr : rdOf ByteArray.empty (p :: q) 0 = p := rfl
    have e2 : ([] : List Int).length + p.size < 140737488355328 := by simp; omega
    have e3 : (0 : Int) < ((p :: q).length : Int) := by simp only [List.length_cons]; omega
    simp (disch := omega) only [spec_Join.l0, impl_Join.l0, hr, if_pos e3, if_neg, if_pos, if_pos e2, hw1, List.nil_append, join]
    exact hj

theorem strOf_bytes (s : ByteArray) : strOfNums (bytesOf s) = s := by
  obtain ⟨⟨l⟩⟩ := s
  have : (bytesOf ⟨⟨l⟩⟩).map (fun n => UInt8.ofNat n.toNat) = l := by
    simp [bytesOf, List.map_map, Function.comp_def]
  unfold strOfNums
  rw [this]

theorem FnExactJoin (l0 : List ByteArray) (o0 : l0.length ≤ maxLen) (q0 : ∀ s ∈ l0, s.size ≤ maxLen) (a1 : ByteArray) (o1 : a1.size ≤ 140737488351232) : ∃ k, laws_FnExactJoin.f k l0 a1 = some true := by
  obtain ⟨r, hr, h⟩ := sz_f l0 o0 q0
  refine ⟨l0.length + 1, ?_⟩
  simp only [laws_FnExactJoin.f]
  by_cases hb : (a1.size : Int) > 1048576
  · rw [if_pos hb]
  · rw [if_neg hb, hr _ (by omega)]
    simp only [Option.bind_some]
    rcases h with h | ⟨h0, h1⟩
    · rw [if_pos h]
    · rw [if_neg (by omega), to_f l0 (by omega) _ (by omega)]
      simp only [Option.bind_some]
      obtain ⟨h2, h3⟩ := join_f l0 a1 (by omega) (by omega) (by omega) (l0.length + 1) (by omega)
      rw [h2, h3]
      simp only [Option.bind_some, if_true]
      rw [eq_f l0 (by omega) _ (by omega)]
      rfl

end Go.Proofs.Yteagmmcglbcifaa.Pure
