/- Joining the parts of a drawn string at the separator restores it, and no part contains the separator, for every code (of at most 2^47 - 4096 bytes). -/
import Derived.Test.YteagmmcglbcifaaXAx5
namespace Go.Proofs.Yteagmmcglbcifaa.Pure
open Go.RowKit Go.Proofs.Yteagmmcglbcifaa.XA Go.Proofs.YteagmmcglbcifaaW.PrintWords Go.Proofs.YteagmmcglbcifaaW.PrintLast

set_option linter.unusedSimpArgs false
set_option linter.unusedVariables false

theorem w64 {n : Int} (h : -9223372036854775808 ≤ n) (h' : n ≤ 9223372036854775807) : wrap64 n = n := by unfold wrap64; omega
theorem cast1 (i : Nat) : (i : Int) + 1 = ((i + 1 : Nat) : Int) := by omega
theorem succ_of {d k : Nat} (h : d < k) : ∃ m, k = m + 1 := ⟨k - 1, by omega⟩

theorem rd_at (l : List ByteArray) (i : Nat) (h : i < l.length) : rdOf ByteArray.empty l (i : Int) = l[i] := by
  simp [rdOf, h]

/-- How many bytes the strings have together. -/
def tot (l : List ByteArray) : Nat := (l.map ByteArray.size).sum

theorem tot_cons (p : ByteArray) (l : List ByteArray) : tot (p :: l) = p.size + tot l := by simp only [tot, List.map_cons, List.sum_cons]

theorem tot_drop (l : List ByteArray) (i : Nat) (h : i < l.length) : tot (l.drop i) = l[i].size + tot (l.drop (i + 1)) := by
  rw [List.drop_eq_getElem_cons h, tot_cons]

theorem sz_loop (l : List ByteArray) (hl : l.length ≤ maxLen) (hs : ∀ s ∈ l, s.size ≤ maxLen) (d : Nat) : ∀ (i : Nat) (left : Int), i + d = l.length → 0 ≤ left → left ≤ 1048576 →
    ∃ r, (∀ k, d < k → laws_szStringS.l0 k l left i = some r) ∧ (r < 0 ∨ 0 ≤ r ∧ (tot (l.drop i) : Int) ≤ left) := by
  simp only [maxLen] at hl hs
  induction d with
  | zero =>
    intro i left hi h0 h1
    refine ⟨left, fun k hk => ?_, .inr ⟨h0, ?_⟩⟩
    · obtain ⟨k, rfl⟩ := succ_of hk
      simp (disch := omega) only [laws_szStringS.l0, if_neg]
    · rw [List.drop_of_length_le (by omega)]; simpa [tot] using h0
  | succ d ih =>
    intro i left hi h0 h1
    have hlt : i < l.length := by omega
    have hz := hs l[i] (List.getElem_mem hlt)
    by_cases hneg : left - (l[i].size : Int) < 0
    · refine ⟨-1, fun k hk => ?_, .inl (by omega)⟩
      obtain ⟨k, rfl⟩ := succ_of hk
      simp (disch := omega) only [laws_szStringS.l0, rd_at, w64, if_pos]
    · obtain ⟨r, h2, h3⟩ := ih (i + 1) (left - (l[i].size : Int)) (by omega) (by omega) (by omega)
      refine ⟨r, fun k hk => ?_, ?_⟩
      · obtain ⟨k, rfl⟩ := succ_of hk
        simp (disch := omega) only [laws_szStringS.l0, rd_at, w64, if_pos, if_neg, cast1]
        exact h2 k (by omega)
      · rcases h3 with h3 | ⟨h3, h4⟩
        · exact .inl h3
        · refine .inr ⟨h3, ?_⟩
          rw [tot_drop l i hlt]; omega

theorem sz_f (l : List ByteArray) (hl : l.length ≤ maxLen) (hs : ∀ s ∈ l, s.size ≤ maxLen) :
    ∃ r, (∀ k, l.length < k → laws_szStringS.f k l 1048576 = some r) ∧ (r < 0 ∨ 0 ≤ r ∧ l.length + tot l ≤ 1048576) := by
  have hl' := hl
  simp only [maxLen] at hl'
  by_cases hneg : 1048576 - (l.length : Int) < 0
  · refine ⟨-1, fun k _ => ?_, .inl (by omega)⟩
    simp (disch := omega) only [laws_szStringS.f, w64, if_pos]
  · obtain ⟨r, h2, h3⟩ := sz_loop l hl hs l.length 0 (1048576 - (l.length : Int)) (by omega) (by omega) (by omega)
    refine ⟨r, fun k hk => ?_, ?_⟩
    · simp (disch := omega) only [laws_szStringS.f, w64, if_neg]; exact h2 k hk
    · rcases h3 with h3 | ⟨h3, h4⟩
      · exact .inl h3
      · refine .inr ⟨h3, ?_⟩
        rw [List.drop_zero] at h4; omega

theorem to_loop (l : List ByteArray) (hl : l.length ≤ 1048576) (d : Nat) : ∀ (i k : Nat), i + d = l.length → d < k →
    laws_toStringS.l0 k l (l.take i ++ List.replicate d (⟨#[]⟩ : ByteArray)) i = some l := by
  induction d with
  | zero =>
    intro i k hi hk
    obtain ⟨k, rfl⟩ := succ_of hk
    simp (disch := omega) only [laws_toStringS.l0, if_neg]
    rw [List.take_of_length_le (by omega)]; simp
  | succ d ih =>
    intro i k hi hk
    obtain ⟨k, rfl⟩ := succ_of hk
    have hlt : i < l.length := by omega
    have hq : (i : Int) < ((l.take i ++ List.replicate (d + 1) (⟨#[]⟩ : ByteArray)).length : Int) := by simp; omega
    have e : (l.take i ++ List.replicate (d + 1) (⟨#[]⟩ : ByteArray)).set i l[i] = l.take (i + 1) ++ List.replicate d (⟨#[]⟩ : ByteArray) := by
      have ht : (l.take i).length = i := by rw [List.length_take]; omega
      rw [List.set_append_right _ _ (by omega), ht, Nat.sub_self, List.replicate_succ, List.set_cons_zero, List.take_succ_eq_append_getElem hlt, List.append_assoc]; rfl
    simp (disch := omega) only [laws_toStringS.l0, rd_at, w64, if_pos, cast1, Int.toNat_natCast, if_pos hq, e]
    exact ih (i + 1) k (by omega) (by omega)

theorem to_f (l : List ByteArray) (hl : l.length ≤ 1048576) (k : Nat) (hk : l.length < k) : laws_toStringS.f k l = some l := by
  simp (disch := omega) only [laws_toStringS.f, if_pos]
  have := to_loop l hl l.length 0 k (by omega) hk
  simpa using this

theorem eq_loop (l : List ByteArray) (hl : l.length ≤ 1099511627776) (d : Nat) : ∀ (i k : Nat), i + d = l.length → d < k → laws_eqStringS.l0 k l l i = some true := by
  induction d with
  | zero =>
    intro i k hi hk
    obtain ⟨k, rfl⟩ := succ_of hk
    simp (disch := omega) only [laws_eqStringS.l0, if_neg]
  | succ d ih =>
    intro i k hi hk
    obtain ⟨k, rfl⟩ := succ_of hk
    simp (disch := omega) only [laws_eqStringS.l0, if_pos, w64, cast1, if_true]
    exact ih (i + 1) k (by omega) (by omega)

theorem eq_f (l : List ByteArray) (hl : l.length ≤ 1099511627776) (k : Nat) (hk : l.length < k) : laws_eqStringS.f k l l = some true := by
  simp only [laws_eqStringS.f, if_true]
  exact eq_loop l hl l.length 0 k (by omega) hk

/-- The parts, each with the separator behind it. -/
def jn (b : Int) (l : List ByteArray) : List Int := l.flatMap fun p => bytesOf p ++ [b]

theorem ext_data (s : ByteArray) (a b : Nat) : (s.extract a b).data.toList = (s.data.toList.drop a).take (b - a) := by
  obtain ⟨⟨l⟩⟩ := s
  rw [ByteArray.extract_mk]

theorem bytes_extract (s : ByteArray) (a b : Nat) : bytesOf (s.extract a b) = ((bytesOf s).drop a).take (b - a) := by
  unfold bytesOf
  rw [ext_data, List.map_take, List.map_drop]

theorem bytes_get (s : ByteArray) (i : Nat) (h : i < s.size) : (bytesOf s)[i]? = some (bt s i) := by
  rw [← rd_bytesOf]
  have h' : i < (bytesOf s).length := by rw [bytesOf_length]; exact h
  simp [rd, List.getElem?_eq_getElem h']

theorem split_loop (s : ByteArray) (b : Int) (hn : s.size ≤ 1048576) (d : Nat) : ∀ (i f : Nat) (out : List ByteArray), i + d = s.size → f ≤ i → out.length ≤ i →
    jn b out = (bytesOf s).take f → (∀ p ∈ out, b ∉ bytesOf p) → b ∉ ((bytesOf s).drop f).take (i - f) →
    ∃ r last, r.length ≤ s.size ∧ (∀ k, d + 1 < k → spec_SplitByte.l0 k s b out f i = some (r ++ [last]) ∧ impl_SplitByte.l0 k s b out f s.size i = some (r ++ [last])) ∧
      jn b r ++ bytesOf last = bytesOf s ∧ (∀ p ∈ r, b ∉ bytesOf p) ∧ b ∉ bytesOf last ∧ (b ∉ ((bytesOf s).drop i) → r = out) := by
  induction d with
  | zero =>
    intro i f out hi hf ho hj hp hq
    have his : i = s.size := by omega
    subst his
    refine ⟨out, s.extract f s.size, ho, fun k hk => ?_, ?_, hp, ?_, fun _ => rfl⟩
    · obtain ⟨k, rfl⟩ : ∃ m, k = m + 2 := ⟨k - 2, by omega⟩
      have hw1 : wrap64 ((s.size : Int) + 1) = (s.size : Int) + 1 := by unfold wrap64; omega
      constructor
      · rw [spec_SplitByte.l0, if_pos (by omega), if_pos rfl, if_pos (by omega), if_pos (by omega), if_pos (by omega), hw1, spec_SplitByte.l0, if_neg (by omega)]
        simp
      · rw [impl_SplitByte.l0, if_neg (by omega), if_pos (by omega), if_pos (by omega), if_pos (by omega)]
        simp
    · rw [bytes_extract, hj, List.take_of_length_le (i := s.size - f) (by rw [List.length_drop, bytesOf_length]; omega)]
      exact List.take_append_drop ..
    · rw [bytes_extract]; exact hq
  | succ d ih =>
    intro i f out hi hf ho hj hp hq
    have hlt : i < s.size := by omega
    have hw1 : wrap64 ((i : Int) + 1) = ((i + 1 : Nat) : Int) := by unfold wrap64; omega
    have hg := bytes_get s i hlt
    have hl : (bytesOf s).length = s.size := bytesOf_length s
    have hnext : ((bytesOf s).drop f).take (i + 1 - f) = ((bytesOf s).drop f).take (i - f) ++ [bt s i] := by
      have h1 : i - f < ((bytesOf s).drop f).length := by rw [List.length_drop]; omega
      have e : i + 1 - f = (i - f) + 1 := by omega
      rw [e, List.take_succ_eq_append_getElem h1]
      congr 2
      have h2 : ((bytesOf s).drop f)[i - f]? = some (bt s i) := by rw [List.getElem?_drop, show f + (i - f) = i by omega]; exact hg
      rw [List.getElem?_eq_getElem h1] at h2
      exact Option.some.inj h2
    have hdrop : (bytesOf s).drop i = bt s i :: (bytesOf s).drop (i + 1) := by
      rw [List.drop_eq_getElem_cons (by omega)]
      congr 1
      rw [List.getElem?_eq_getElem (by omega)] at hg
      exact Option.some.inj hg
    by_cases hb : bt s i = b
    · obtain ⟨r, last, h1, h2, h3, h4, h5, h6⟩ := ih (i + 1) (i + 1) (out ++ [s.extract f i]) (by omega) (by omega) (by simp; omega)
        (by
          unfold jn at hj ⊢
          rw [List.flatMap_append, hj]
          simp only [List.flatMap_cons, List.flatMap_nil, List.append_nil]
          rw [bytes_extract, ← List.append_assoc]
          have e : i = f + (i - f) := by omega
          have h7 : (bytesOf s).take f ++ ((bytesOf s).drop f).take (i - f) = (bytesOf s).take i := by
            conv => rhs; rw [e, List.take_add]
          rw [h7, List.take_succ_eq_append_getElem (by omega)]
          congr 2
          rw [List.getElem?_eq_getElem (by omega)] at hg
          rw [Option.some.inj hg, hb])
        (by
          intro p hp'
          rcases List.mem_append.1 hp' with hp' | hp'
          · exact hp p hp'
          · rw [List.mem_singleton.1 hp', bytes_extract]; exact hq)
        (by simp)
      refine ⟨r, last, h1, fun k hk => ?_, h3, h4, h5, fun h => absurd (by rw [hdrop, hb]; simp) h⟩
      obtain ⟨k, rfl⟩ : ∃ m, k = m + 1 := ⟨k - 1, by omega⟩
      have := h2 k (by omega)
      constructor
      · rw [spec_SplitByte.l0, if_pos (by omega), if_neg (by omega), if_pos (by omega), if_pos (by omega), if_pos hb, if_pos (by omega), if_pos (by omega), if_pos (by omega), hw1]
        simpa using this.1
      · rw [impl_SplitByte.l0, if_pos (by omega), if_pos (by omega), if_pos (by omega), if_pos hb, if_pos (by omega), if_pos (by omega), if_pos (by omega), if_pos (by omega), hw1]
        simpa using this.2
    · obtain ⟨r, last, h1, h2, h3, h4, h5, h6⟩ := ih (i + 1) f out (by omega) (by omega) (by omega) hj hp
        (by
          rw [hnext]
          intro h
          rcases List.mem_append.1 h with h | h
          · exact hq h
          · exact hb (List.mem_singleton.1 h).symm)
      refine ⟨r, last, h1, fun k hk => ?_, h3, h4, h5, fun h => h6 (fun h' => h (by rw [hdrop]; exact List.mem_cons_of_mem _ h'))⟩
      obtain ⟨k, rfl⟩ : ∃ m, k = m + 1 := ⟨k - 1, by omega⟩
      have := h2 k (by omega)
      constructor
      · rw [spec_SplitByte.l0, if_pos (by omega), if_neg (by omega), if_pos (by omega), if_pos (by omega), if_neg hb, hw1]
        exact this.1
      · rw [impl_SplitByte.l0, if_pos (by omega), if_pos (by omega), if_pos (by omega), if_neg hb, hw1]
        exact this.2

/-- What both SplitBytes answer. -/
theorem split_f (s : ByteArray) (b : Int) (hn : s.size ≤ 1048576) : ∃ r last, r.length ≤ s.size ∧ (∀ k, s.size + 1 < k → spec_SplitByte.f k s b = some (r ++ [last]) ∧ impl_SplitByte.f k s b = some (r ++ [last])) ∧
    jn b r ++ bytesOf last = bytesOf s ∧ (∀ p ∈ r, b ∉ bytesOf p) ∧ b ∉ bytesOf last ∧ (b ∉ bytesOf s → r = []) := by
  obtain ⟨r, last, h1, h2, h3, h4, h5, h6⟩ := split_loop s b hn s.size 0 0 [] (by omega) (by omega) (by simp) (by simp [jn]) (by simp) (by simp)
  exact ⟨r, last, h1, fun k hk => h2 k hk, h3, h4, h5, fun h => h6 (by simpa using h)⟩

/-- What stands behind the first part of a joined list. -/
def jg (sep : List Int) : List ByteArray → List Int
  | [] => []
  | p :: q => sep ++ bytesOf p ++ jg sep q

/-- A list of strings, joined. -/
def join (sep : List Int) : List ByteArray → List Int
  | [] => []
  | p :: q => bytesOf p ++ jg sep q

theorem jg_length (sep : List Int) (l : List ByteArray) : (jg sep l).length = l.length * sep.length + tot l := by
  induction l with
  | nil => simp [jg, tot]
  | cons p q ih =>
    have e := tot_cons p q
    simp only [jg, List.length_append, List.length_cons, bytesOf_length, ih, e, Nat.add_mul]; omega

theorem join_loop (l : List ByteArray) (a : ByteArray) (hl : l.length ≤ 1048576) (d : Nat) : ∀ (i : Nat) (x : List Int), 1 ≤ i → i + d = l.length → x.length + (jg (bytesOf a) (l.drop i)).length < 140737488355328 →
    ∀ k, d < k → spec_Join.l0 k l a x i = some (strOfNums (x ++ jg (bytesOf a) (l.drop i))) ∧ impl_Join.l0 k a x l l.length i = some (strOfNums (x ++ jg (bytesOf a) (l.drop i))) := by
  induction d with
  | zero =>
    intro i x h1 hi hz k hk
    obtain ⟨k, rfl⟩ := succ_of hk
    simp (disch := omega) only [spec_Join.l0, impl_Join.l0, if_neg]
    rw [List.drop_of_length_le (by omega)]
    simp [jg]
  | succ d ih =>
    intro i x h1 hi hz k hk
    obtain ⟨k, rfl⟩ : ∃ m, k = m + 1 := ⟨k - 1, by omega⟩
    have hlt : i < l.length := by omega
    have hw1 : wrap64 ((i : Int) + 1) = ((i + 1 : Nat) : Int) := by unfold wrap64; omega
    have hd : l.drop i = l[i] :: l.drop (i + 1) := List.drop_eq_getElem_cons hlt
    rw [hd] at hz ⊢
    simp only [jg, List.length_append, bytesOf_length] at hz
    have := ih (i + 1) (x ++ bytesOf a ++ bytesOf l[i]) (by omega) (by omega) (by simp only [List.length_append, bytesOf_length]; omega) k (by omega)
    simp only [jg]
    have e1 : x.length + a.size < 140737488355328 := by omega
    have e2 : (x ++ bytesOf a).length + l[i].size < 140737488355328 := by simp only [List.length_append, bytesOf_length]; omega
    simp (disch := omega) only [spec_Join.l0, impl_Join.l0, rd_at, if_pos, if_pos e1, if_pos e2, hw1, Option.bind_some, this.1, this.2]
    simp

theorem join_f (l : List ByteArray) (a : ByteArray) (hl : l.length ≤ 1048576) (ha : a.size ≤ 1048576) (ht : tot l ≤ 1048576) (k : Nat) (hk : l.length < k) :
    spec_Join.f k l a = some (strOfNums (join (bytesOf a) l)) ∧ impl_Join.f k l a = some (strOfNums (join (bytesOf a) l)) := by
  simp only [spec_Join.f, impl_Join.f]
  obtain ⟨k, rfl⟩ : ∃ m, k = m + 1 := ⟨k - 1, by omega⟩
  cases l with
  | nil => simp [spec_Join.l0, impl_Join.l0, join]
  | cons p q =>
    have et := tot_cons p q
    have e : (q.length * (bytesOf a).length) ≤ 1048576 * 1048576 := Nat.mul_le_mul (by simp at hl; omega) (by rw [bytesOf_length]; exact ha)
    have hj := join_loop (p :: q) a hl q.length 1 (bytesOf p) (by omega) (by simp only [List.length_cons]; omega) (by simp only [List.drop_succ_cons, List.drop_zero, jg_length, bytesOf_length] at *; omega) k (by simp at hk; omega)
    simp only [List.drop_succ_cons, List.drop_zero] at hj
    have hw1 : wrap64 (0 + 1) = ((1 : Nat) : Int) := by unfold wrap64; omega
    have hr : rdOf ByteArray.empty (p :: q) 0 = p := rfl
    have e2 : ([] : List Int).length + p.size < 140737488355328 := by simp; omega
    have e3 : (0 : Int) < ((p :: q).length : Int) := by simp only [List.length_cons]; omega
    simp (disch := omega) only [spec_Join.l0, impl_Join.l0, hr, if_pos e3, if_neg, if_pos, if_pos e2, hw1, List.nil_append, join]
    exact hj

theorem strOf_bytes (s : ByteArray) : strOfNums (bytesOf s) = s := by
  obtain ⟨⟨l⟩⟩ := s
  have : (bytesOf ⟨⟨l⟩⟩).map (fun n => UInt8.ofNat n.toNat) = l := by
    simp [bytesOf, List.map_map, Function.comp_def]
  unfold strOfNums
  rw [this]

theorem and255 (n : Int) : Go.bits .and .i64 n 255 = n % 256 := by
  have h255 : (BitVec.ofInt 64 255).toNat = 2 ^ 8 - 1 := by decide
  have key : (BitVec.ofInt 64 n &&& BitVec.ofInt 64 255).toNat = (n % ((2 ^ 64 : Nat) : Int)).toNat % 2 ^ 8 := by
    rw [BitVec.toNat_and, BitVec.toNat_ofInt, h255, Nat.and_two_pow_sub_one_eq_mod]
  show IntKind.i64.wrap ((BitVec.ofInt 64 n &&& BitVec.ofInt 64 255).toNat : Nat) = n % 256
  rw [key, IntKind.wrap_i64]
  omega

theorem new_loop (l : List Int) (hl : l.length * 1 ≤ 140737488351232) (d : Nat) : ∀ (h i : Int), 0 ≤ i → i + d = l.length → ∃ z, ∀ k, d < k → spec_l1New.l0 k l h i = some (l, 0, z) := by
  induction d with
  | zero =>
    intro h i h0 h1
    refine ⟨h, fun k hk => ?_⟩
    obtain ⟨k, rfl⟩ : ∃ m, k = m + 1 := ⟨k - 1, by omega⟩
    simp only [spec_l1New.l0]
    rw [if_neg (by omega)]
  | succ d ih =>
    intro h i h0 h1
    have e : wrap64 (i + 1) = i + 1 := by unfold wrap64; omega
    by_cases h4 : i < 4000
    · obtain ⟨z, hz⟩ := ih (Go.bits .and .i64 (wrap64 ((wrap64 ((wrap64 (h * 131)) + (wrap64 (rd l i)))) + 7)) 1073741823) (i + 1) (by omega) (by omega)
      refine ⟨z, fun k hk => ?_⟩
      obtain ⟨k, rfl⟩ : ∃ m, k = m + 1 := ⟨k - 1, by omega⟩
      simp only [spec_l1New.l0]
      rw [if_pos (by omega), if_pos h4, if_pos h0, e]
      exact hz k (by omega)
    · refine ⟨h, fun k hk => ?_⟩
      obtain ⟨k, rfl⟩ : ∃ m, k = m + 1 := ⟨k - 1, by omega⟩
      simp only [spec_l1New.l0]
      rw [if_pos (by omega), if_neg h4]

theorem new_f (l : List Int) (hl : l.length * 1 ≤ 140737488351232) : ∃ z, ∀ k, l.length < k → spec_l1New.f k l = some (l, 0, z) := by
  obtain ⟨z, hz⟩ := new_loop l hl l.length (wrap64 (26583 + (l.length : Int))) 0 (by omega) (by omega)
  exact ⟨z, fun k hk => hz k hk⟩

theorem byte_f (l : List Int) (i h : Int) (h0 : 0 ≤ i) (hi : i ≤ l.length) (hl : l.length * 1 ≤ 140737488351232) : ∃ x j z, spec_l1Byte.f l i h = some (x, j, z) ∧ 0 ≤ x ∧ x ≤ 255 ∧ 0 ≤ j ∧ j ≤ l.length := by
  simp only [spec_l1Byte.f, and255]
  by_cases h4 : i < (l.length : Int)
  · have e : wrap64 (i + 1) = i + 1 := by unfold wrap64; omega
    rw [if_pos h4, if_pos h0, e]
    exact ⟨_, _, _, rfl, by omega, by omega, by omega, by omega⟩
  · rw [if_neg h4]
    exact ⟨_, _, _, rfl, by omega, by omega, h0, hi⟩

theorem below_f (l : List Int) (i h n : Int) (h0 : 0 ≤ i) (hi : i ≤ l.length) (hl : l.length * 1 ≤ 140737488351232) (hn : 0 < n) (hn' : n ≤ 256) : ∃ x j z, spec_l1Below.f l i h n = some (x, j, z) ∧ 0 ≤ x ∧ x < n ∧ 0 ≤ j ∧ j ≤ l.length := by
  obtain ⟨x, j, z, e, x0, x1, h1, h2⟩ := byte_f l i h h0 hi hl
  refine ⟨Int.tmod x n, j, z, ?_, ?_, ?_, h1, h2⟩
  · simp only [spec_l1Below.f]
    rw [if_neg (by omega), if_pos (by omega), e]
    simp only [Option.bind_some]
    rw [if_neg (by omega)]
  · rw [Int.tmod_eq_emod_of_nonneg x0]; exact Int.emod_nonneg _ (by omega)
  · rw [Int.tmod_eq_emod_of_nonneg x0]; exact Int.emod_lt_of_pos _ hn

theorem below_big (l : List Int) (i h n : Int) (h0 : 0 ≤ i) (hi : i ≤ l.length) (hl : l.length * 1 ≤ 140737488351232) (hn : 256 < n) : ∃ x j z, spec_l1Below.f l i h n = some (x, j, z) ∧ 0 ≤ j ∧ j ≤ l.length := by
  obtain ⟨x, j, z, e, _, _, h1, h2⟩ := byte_f l i h h0 hi hl
  obtain ⟨x', j', z', e', _, _, h1', h2'⟩ := byte_f l j z h1 h2 hl
  obtain ⟨x2, j2, z2, e2, _, _, h12, h22⟩ := byte_f l j' z' h1' h2' hl
  obtain ⟨x3, j3, z3, e3, _, _, h13, h23⟩ := byte_f l j2 z2 h12 h22 hl
  refine ⟨Int.tmod (wrap64 ((wrap64 ((wrap64 ((wrap64 (x * 16777216)) + (wrap64 (x' * 65536)))) + (wrap64 (x2 * 256)))) + x3)) n, j3, z3, ?_, h13, h23⟩
  simp only [spec_l1Below.f]
  rw [if_neg (by omega), if_neg (by omega), e]
  simp only [Option.bind_some]
  rw [e']
  simp only [Option.bind_some]
  rw [e2]
  simp only [Option.bind_some]
  rw [e3]
  simp only [Option.bind_some]
  rw [if_neg (by omega)]

theorem pick_f (l : List Int) (i h : Int) (h0 : 0 ≤ i) (hi : i ≤ l.length) (hl : l.length * 1 ≤ 140737488351232) (xs : List ByteArray) (hx : xs ≠ []) (hx' : xs.length ≤ 256) : ∃ s j z, spec_l1Pick.f l i h xs = some (s, j, z) ∧ s ∈ xs ∧ 0 ≤ j ∧ j ≤ l.length := by
  have hp : 0 < xs.length := List.length_pos_iff.mpr hx
  obtain ⟨x, j, z, e, x0, x1, h1, h2⟩ := below_f l i h xs.length h0 hi hl (by omega) (by omega)
  obtain ⟨n, rfl⟩ := Int.eq_ofNat_of_zero_le x0
  have hn : n < xs.length := by omega
  refine ⟨xs[n], j, z, ?_, List.getElem_mem hn, h1, h2⟩
  simp only [spec_l1Pick.f, e, Option.bind_some]
  rw [if_pos (by omega), if_pos (by omega)]
  simp [rdOf, hn]

theorem pickInt_f (l : List Int) (i h : Int) (h0 : 0 ≤ i) (hi : i ≤ l.length) (hl : l.length * 1 ≤ 140737488351232) (xs : List Int) (hx : xs ≠ []) (hx' : xs.length ≤ 256) : ∃ s j z, spec_l1PickInt.f l i h xs = some (s, j, z) ∧ s ∈ xs ∧ 0 ≤ j ∧ j ≤ l.length := by
  have hp : 0 < xs.length := List.length_pos_iff.mpr hx
  obtain ⟨x, j, z, e, x0, x1, h1, h2⟩ := below_f l i h xs.length h0 hi hl (by omega) (by omega)
  obtain ⟨n, rfl⟩ := Int.eq_ofNat_of_zero_le x0
  have hn : n < xs.length := by omega
  refine ⟨xs[n], j, z, ?_, List.getElem_mem hn, h1, h2⟩
  simp only [spec_l1PickInt.f, e, Option.bind_some]
  rw [if_pos (by omega), if_pos (by omega)]
  simp [rd, hn]

theorem jg_jn (b : Int) (r : List ByteArray) (last : ByteArray) : jg [b] (r ++ [last]) = b :: (jn b r ++ bytesOf last) := by
  induction r with
  | nil => simp [jg, jn]
  | cons p q ih => simp only [List.cons_append, jg, ih]; simp [jn]

theorem join_jn (b : Int) (r : List ByteArray) (last : ByteArray) : join [b] (r ++ [last]) = jn b r ++ bytesOf last := by
  cases r with
  | nil => simp [join, jg, jn]
  | cons p q => simp only [List.cons_append, join, jg_jn]; simp [jn]

theorem jn_tot (b : Int) (r : List ByteArray) : tot r ≤ (jn b r).length := by
  induction r with
  | nil => simp [tot]
  | cons p q ih =>
    have e := tot_cons p q
    have e2 : (jn b (p :: q)).length = p.size + 1 + (jn b q).length := by simp [jn, bytesOf_length]; omega
    omega

theorem tot_mem (r : List ByteArray) (p : ByteArray) (h : p ∈ r) : p.size ≤ tot r := by
  induction r with
  | nil => simp at h
  | cons q r ih =>
    have e := tot_cons q r
    rcases List.mem_cons.1 h with rfl | h
    · omega
    · have := ih h; omega

theorem tot_app (r : List ByteArray) (p : ByteArray) : tot (r ++ [p]) = tot r + p.size := by simp [tot]

theorem parts_loop (b : Int) (l : List ByteArray) (hl : l.length ≤ 1048576) (hp : ∀ p ∈ l, p.size ≤ 1048576 ∧ b ∉ bytesOf p) (d : Nat) : ∀ (i : Nat), i + d = l.length → ∀ k, d + 1048580 < k → laws_FnSplit.l0 k b l i = some true := by
  induction d with
  | zero =>
    intro i hi k hk
    obtain ⟨k, rfl⟩ : ∃ m, k = m + 1 := ⟨k - 1, by omega⟩
    simp only [laws_FnSplit.l0]
    rw [if_neg (by omega)]
  | succ d ih =>
    intro i hi k hk
    obtain ⟨k, rfl⟩ : ∃ m, k = m + 1 := ⟨k - 1, by omega⟩
    have hlt : i < l.length := by omega
    have hw1 : wrap64 ((i : Int) + 1) = ((i + 1 : Nat) : Int) := by unfold wrap64; omega
    obtain ⟨h1, h2⟩ := hp l[i] (List.getElem_mem hlt)
    obtain ⟨r, last, _, h3, _, _, _, h4⟩ := split_f l[i] b h1
    have h5 := h4 h2
    subst h5
    simp only [laws_FnSplit.l0]
    rw [if_pos (by omega), if_pos (by omega), rd_at l i hlt, (h3 k (by omega)).2]
    simp only [Option.bind_some]
    rw [if_pos (by simp), hw1]
    exact ih (i + 1) (by omega) k (by omega)

theorem draw_f (l : List Int) (hl : l.length * 1 ≤ 140737488351232) : ∃ s b, (∀ k, l.length < k → spec_DrawSplitByte.f k l = some (s, b)) ∧ s.size ≤ 10 ∧ 0 ≤ b ∧ b ≤ 255 := by
  obtain ⟨z, hz⟩ := new_f l hl
  obtain ⟨s, j, z1, h1, h2, h3, h4⟩ := pick_f l 0 z (by omega) (by omega) hl [(⟨#[]⟩ : ByteArray), (⟨#[97]⟩ : ByteArray), (⟨#[97, 44, 98]⟩ : ByteArray), (⟨#[44]⟩ : ByteArray), (⟨#[97, 44, 44, 98, 44]⟩ : ByteArray), (⟨#[97, 10, 98, 10]⟩ : ByteArray)] (by simp) (by simp)
  obtain ⟨b, j2, z2, h5, h6, h7, h8⟩ := pickInt_f l j z1 h3 h4 hl [44, 10] (by simp) (by simp)
  refine ⟨s, b % 256, fun k hk => ?_, ?_, by omega, by omega⟩
  · simp only [spec_DrawSplitByte.f]
    rw [hz k hk]
    simp only [Option.bind_some]
    rw [h1]
    simp only [Option.bind_some]
    rw [h5]
    simp only [Option.bind_some]
  · simp only [List.mem_cons, List.not_mem_nil, or_false] at h2
    rcases h2 with rfl | rfl | rfl | rfl | rfl | rfl <;> decide

theorem FnSplit : laws_FnSplit.Pure := by
  intro l _ hl _
  obtain ⟨s, b, hd, hs, hb0, hb1⟩ := draw_f l hl
  obtain ⟨r, last, h1, h2, h3, h4, h5, _⟩ := split_f s b (by omega)
  have hlen := congrArg List.length h3
  have ht := jn_tot b r
  simp only [List.length_append, bytesOf_length] at hlen
  obtain ⟨K, hK⟩ : ∃ K, K = l.length + 3000000 := ⟨_, rfl⟩
  refine ⟨K, ?_⟩
  unfold laws_FnSplit.f laws_big.f
  simp only [Option.bind_some]
  by_cases hbig : (l.length : Int) > 1048576
  · simp [hbig]
  · rw [decide_eq_false hbig]
    rw [if_neg (by simp), hd _ (by omega)]
    simp only [Option.bind_some]
    obtain ⟨e1, e2⟩ := h2 K (by omega)
    have hby : bytesOf (strOfNums [b]) = [b] := by
      simp [bytesOf, strOfNums]; omega
    have hj := (join_f (r ++ [last]) (strOfNums [b]) (by simp; omega) (by rw [strOfNums_size]; simp) (by rw [tot_app]; omega) K (by simp; omega)).2
    rw [hby, join_jn, h3, strOf_bytes] at hj
    rw [e2]
    simp only [Option.bind_some]
    rw [hj]
    simp only [Option.bind_some, if_true]
    rw [e1]
    simp only [Option.bind_some]
    obtain ⟨m, hm⟩ : ∃ m, K = m + 1 := ⟨K - 1, by omega⟩
    rw [hm]
    simp only [laws_FnSplit.j0]
    rw [if_neg (by simp)]
    refine parts_loop b (r ++ [last]) (by simp; omega) (fun p hp => ?_) (r ++ [last]).length 0 (by omega) m (by simp; omega)
    rcases List.mem_append.1 hp with hp | hp
    · exact ⟨by have := tot_mem r p hp; omega, h4 p hp⟩
    · rw [List.mem_singleton.1 hp]; exact ⟨by omega, h5⟩

end Go.Proofs.Yteagmmcglbcifaa.Pure
