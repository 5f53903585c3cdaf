/- The program's SplitByte answers as the reference's, in memory of its own, for every string and every byte (strings of at most 2^47 - 4096 bytes). -/
import Derived.Test.YteagmmcglbcifaaXAx3
namespace Go.Proofs.Yteagmmcglbcifaa.Pure
open Go.RowKit Go.Proofs.Yteagmmcglbcifaa.XA Go.Proofs.YteagmmcglbcifaaW.PrintWords Go.Proofs.YteagmmcglbcifaaW.PrintLast

set_option linter.unusedSimpArgs false
set_option linter.unusedVariables false

theorem w64 {n : Int} (h : -9223372036854775808 ≤ n) (h' : n ≤ 9223372036854775807) : wrap64 n = n := by unfold wrap64; omega
theorem cast1 (i : Nat) : (i : Int) + 1 = ((i + 1 : Nat) : Int) := by omega
theorem succ_of {d k : Nat} (h : d < k) : ∃ m, k = m + 1 := ⟨k - 1, by omega⟩

theorem rd_at (l : List ByteArray) (i : Nat) (h : i < l.length) : rdOf ByteArray.empty l (i : Int) = l[i] := by
  simp [rdOf, h]

/-- How many bytes the strings have together. -/
def tot (l : List ByteArray) : Nat := (l.map ByteArray.size).sum

theorem tot_cons (p : ByteArray) (l : List ByteArray) : tot (p :: l) = p.size + tot l := by simp only [tot, List.map_cons, List.sum_cons]

theorem tot_drop (l : List ByteArray) (i : Nat) (h : i < l.length) : tot (l.drop i) = l[i].size + tot (l.drop (i + 1)) := by
  rw [List.drop_eq_getElem_cons h, tot_cons]

theorem sz_loop (l : List ByteArray) (hl : l.length ≤ maxLen) (hs : ∀ s ∈ l, s.size ≤ maxLen) (d : Nat) : ∀ (i : Nat) (left : Int), i + d = l.length → 0 ≤ left → left ≤ 1048576 →
    ∃ r, (∀ k, d < k → laws_szStringS.l0 k l left i = some r) ∧ (r < 0 ∨ 0 ≤ r ∧ (tot (l.drop i) : Int) ≤ left) := by
  simp only [maxLen] at hl hs
  induction d with
  | zero =>
    intro i left hi h0 h1
    refine ⟨left, fun k hk => ?_, .inr ⟨h0, ?_⟩⟩
    · obtain ⟨k, rfl⟩ := succ_of hk
      simp (disch := omega) only [laws_szStringS.l0, if_neg]
    · rw [List.drop_of_length_le (by omega)]; simpa [tot] using h0
  | succ d ih =>
    intro i left hi h0 h1
    have hlt : i < l.length := by omega
    have hz := hs l[i] (List.getElem_mem hlt)
    by_cases hneg : left - (l[i].size : Int) < 0
    · refine ⟨-1, fun k hk => ?_, .inl (by omega)⟩
      obtain ⟨k, rfl⟩ := succ_of hk
      simp (disch := omega) only [laws_szStringS.l0, rd_at, w64, if_pos]
    · obtain ⟨r, h2, h3⟩ := ih (i + 1) (left - (l[i].size : Int)) (by omega) (by omega) (by omega)
      refine ⟨r, fun k hk => ?_, ?_⟩
      · obtain ⟨k, rfl⟩ := succ_of hk
        simp (disch := omega) only [laws_szStringS.l0, rd_at, w64, if_pos, if_neg, cast1]
        exact h2 k (by omega)
      · rcases h3 with h3 | ⟨h3, h4⟩
        · exact .inl h3
        · refine .inr ⟨h3, ?_⟩
          rw [tot_drop l i hlt]; omega

theorem sz_f (l : List ByteArray) (hl : l.length ≤ maxLen) (hs : ∀ s ∈ l, s.size ≤ maxLen) :
    ∃ r, (∀ k, l.length < k → laws_szStringS.f k l 1048576 = some r) ∧ (r < 0 ∨ 0 ≤ r ∧ l.length + tot l ≤ 1048576) := by
  have hl' := hl
  simp only [maxLen] at hl'
  by_cases hneg : 1048576 - (l.length : Int) < 0
  · refine ⟨-1, fun k _ => ?_, .inl (by omega)⟩
    simp (disch := omega) only [laws_szStringS.f, w64, if_pos]
  · obtain ⟨r, h2, h3⟩ := sz_loop l hl hs l.length 0 (1048576 - (l.length : Int)) (by omega) (by omega) (by omega)
    refine ⟨r, fun k hk => ?_, ?_⟩
    · simp (disch := omega) only [laws_szStringS.f, w64, if_neg]; exact h2 k hk
    · rcases h3 with h3 | ⟨h3, h4⟩
      · exact .inl h3
      · refine .inr ⟨h3, ?_⟩
        rw [List.drop_zero] at h4; omega

theorem to_loop (l : List ByteArray) (hl : l.length ≤ 1048576) (d : Nat) : ∀ (i k : Nat), i + d = l.length → d < k →
    laws_toStringS.l0 k l (l.take i ++ List.replicate d (⟨#[]⟩ : ByteArray)) i = some l := by
  induction d with
  | zero =>
    intro i k hi hk
    obtain ⟨k, rfl⟩ := succ_of hk
    simp (disch := omega) only [laws_toStringS.l0, if_neg]
    rw [List.take_of_length_le (by omega)]; simp
  | succ d ih =>
    intro i k hi hk
    obtain ⟨k, rfl⟩ := succ_of hk
    have hlt : i < l.length := by omega
    have hq : (i : Int) < ((l.take i ++ List.replicate (d + 1) (⟨#[]⟩ : ByteArray)).length : Int) := by simp; omega
    have e : (l.take i ++ List.replicate (d + 1) (⟨#[]⟩ : ByteArray)).set i l[i] = l.take (i + 1) ++ List.replicate d (⟨#[]⟩ : ByteArray) := by
      have ht : (l.take i).length = i := by rw [List.length_take]; omega
      rw [List.set_append_right _ _ (by omega), ht, Nat.sub_self, List.replicate_succ, List.set_cons_zero, List.take_succ_eq_append_getElem hlt, List.append_assoc]; rfl
    simp (disch := omega) only [laws_toStringS.l0, rd_at, w64, if_pos, cast1, Int.toNat_natCast, if_pos hq, e]
    exact ih (i + 1) k (by omega) (by omega)

theorem to_f (l : List ByteArray) (hl : l.length ≤ 1048576) (k : Nat) (hk : l.length < k) : laws_toStringS.f k l = some l := by
  simp (disch := omega) only [laws_toStringS.f, if_pos]
  have := to_loop l hl l.length 0 k (by omega) hk
  simpa using this

theorem eq_loop (l : List ByteArray) (hl : l.length ≤ 1099511627776) (d : Nat) : ∀ (i k : Nat), i + d = l.length → d < k → laws_eqStringS.l0 k l l i = some true := by
  induction d with
  | zero =>
    intro i k hi hk
    obtain ⟨k, rfl⟩ := succ_of hk
    simp (disch := omega) only [laws_eqStringS.l0, if_neg]
  | succ d ih =>
    intro i k hi hk
    obtain ⟨k, rfl⟩ := succ_of hk
    simp (disch := omega) only [laws_eqStringS.l0, if_pos, w64, cast1, if_true]
    exact ih (i + 1) k (by omega) (by omega)

theorem eq_f (l : List ByteArray) (hl : l.length ≤ 1099511627776) (k : Nat) (hk : l.length < k) : laws_eqStringS.f k l l = some true := by
  simp only [laws_eqStringS.f, if_true]
  exact eq_loop l hl l.length 0 k (by omega) hk

theorem mark_loop0 (d : Nat) : ∀ (n : Nat) (out : ByteArray), n < 10 ^ d → d + out.size ≤ 1000 → n ≤ 9223372036854775807 → ∃ s, ∀ k, d < k → laws_markText.l0 k (n : Int) out = some s := by
  induction d with
  | zero =>
    intro n out h hz hn
    refine ⟨(⟨#[109]⟩ : ByteArray) ++ out, fun k hk => ?_⟩
    obtain ⟨k, rfl⟩ : ∃ m, k = m + 1 := ⟨k - 1, by omega⟩
    simp only [laws_markText.l0]
    rw [if_neg (by omega), if_pos (by omega)]
  | succ d ih =>
    intro n out h hz hn
    by_cases h0 : n = 0
    · refine ⟨(⟨#[109]⟩ : ByteArray) ++ out, fun k hk => ?_⟩
      obtain ⟨k, rfl⟩ : ∃ m, k = m + 1 := ⟨k - 1, by omega⟩
      simp only [laws_markText.l0]
      rw [if_neg (by omega), if_pos (by omega)]
    · obtain ⟨s, hs⟩ := ih (n / 10) (strOfNums [(wrap64 (48 + (Int.tmod (n : Int) 10))) % 256] ++ out) (by rw [Nat.pow_succ] at h; omega) (by rw [ByteArray.size_append, strOfNums_size]; simp; omega) (by omega)
      refine ⟨s, fun k hk => ?_⟩
      obtain ⟨k, rfl⟩ : ∃ m, k = m + 1 := ⟨k - 1, by omega⟩
      simp only [laws_markText.l0]
      have e : wrap64 (Int.tdiv (n : Int) 10) = ((n / 10 : Nat) : Int) := by rw [Int.tdiv_eq_ediv_of_nonneg (by omega)]; unfold wrap64; omega
      rw [if_pos (by omega)]
      simp only [Option.bind_some]
      rw [if_pos (by rw [strOfNums_size]; simp; omega), e]
      exact hs k (by omega)

theorem mark_text (m : Int) (h : m ≤ 9223372036854775807) : ∃ s, ∀ k, 40 < k → laws_markText.f k m = some s := by
  by_cases h0 : m ≤ 0
  · exact ⟨_, fun k _ => by simp only [laws_markText.f]; rw [if_pos h0]⟩
  · obtain ⟨n, rfl⟩ := Int.eq_ofNat_of_zero_le (show 0 ≤ m by omega)
    obtain ⟨s, hs⟩ := mark_loop0 20 n ⟨#[]⟩ (by omega) (by decide) (by omega)
    exact ⟨s, fun k hk => by simp only [laws_markText.f]; rw [if_neg h0]; exact hs k (by omega)⟩

theorem mark_loop (d : Nat) : ∀ (i : Nat) (m : Int) (l : List ByteArray), i + d = l.length → 1 ≤ m → m + d ≤ 1099511627776 → l.length ≤ 1099511627776 →
    ∃ l', (∀ k, d + 50 < k → laws_markStringS.l0 k l m i = some (m + d, l')) ∧ (∀ k, d + 50 < k → laws_heldStringS.l0 k l' m i = some (m + d)) ∧ l'.length = l.length ∧ l'.take i = l.take i := by
  induction d with
  | zero =>
    intro i m l hi h1 h2 h3
    refine ⟨l, fun k hk => ?_, fun k hk => ?_, rfl, rfl⟩ <;> obtain ⟨k, rfl⟩ : ∃ m, k = m + 1 := ⟨k - 1, by omega⟩
    · simp only [laws_markStringS.l0]; rw [if_neg (by omega)]; simp
    · simp only [laws_heldStringS.l0]; rw [if_neg (by omega)]; simp
  | succ d ih =>
    intro i m l hi h1 h2 h3
    have hlt : i < l.length := by omega
    obtain ⟨s, hs⟩ := mark_text m (by omega)
    have hw1 : wrap64 ((i : Int) + 1) = ((i + 1 : Nat) : Int) := by unfold wrap64; omega
    have hw2 : wrap64 (m + 1) = m + 1 := by unfold wrap64; omega
    obtain ⟨l', a, b, c, e⟩ := ih (i + 1) (m + 1) (l.set i s) (by simp; omega) (by omega) (by omega) (by simpa using h3)
    have hm : m + 1 + (d : Int) = m + ((d + 1 : Nat) : Int) := by omega
    have hlt' : i < l'.length := by rw [c]; simpa using hlt
    have hget : l'[i] = s := by
      have h4 := congrArg (fun x => x[i]?) e
      simp only [List.getElem?_take] at h4
      rw [if_pos (by omega), if_pos (by omega), List.getElem?_eq_getElem hlt', List.getElem?_set_self hlt] at h4
      exact Option.some.inj h4
    refine ⟨l', fun k hk => ?_, fun k hk => ?_, by simpa using c, ?_⟩
    · obtain ⟨k, rfl⟩ : ∃ m, k = m + 1 := ⟨k - 1, by omega⟩
      simp only [laws_markStringS.l0]
      rw [if_pos (by omega), hs k (by omega)]
      simp only [Option.bind_some]
      rw [if_pos (by omega), hw1, hw2, Int.toNat_natCast, ← hm]
      exact a k (by omega)
    · obtain ⟨k, rfl⟩ : ∃ m, k = m + 1 := ⟨k - 1, by omega⟩
      simp only [laws_heldStringS.l0]
      have hr : rdOf ByteArray.empty l' (i : Int) = s := by simp [rdOf, hlt', hget]
      rw [if_pos (by omega), if_pos (by omega), hs k (by omega)]
      simp only [Option.bind_some]
      rw [hr, if_pos rfl, hw1, hw2, ← hm]
      exact b k (by omega)
    · have h4 := congrArg (List.take i) e
      rw [List.take_take, List.take_take, Nat.min_eq_left (by omega), List.take_set_of_le (by omega)] at h4
      exact h4

/-- A list of strings is marked, and then held. -/
theorem mark_f (l : List ByteArray) (hl : l.length ≤ 1073741824) : ∃ l', (∀ k, l.length + 50 < k → laws_markStringS.f k l 1 = some (1 + (l.length : Int), l')) ∧ (∀ k, l.length + 50 < k → laws_heldStringS.f k l' 1 = some (1 + (l.length : Int))) ∧ l'.length = l.length := by
  obtain ⟨l', a, b, c, _⟩ := mark_loop l.length 0 1 l (by omega) (by omega) (by omega) (by omega)
  exact ⟨l', a, b, c⟩

/-- The parts, each with the separator behind it. -/
def jn (b : Int) (l : List ByteArray) : List Int := l.flatMap fun p => bytesOf p ++ [b]

theorem ext_data (s : ByteArray) (a b : Nat) : (s.extract a b).data.toList = (s.data.toList.drop a).take (b - a) := by
  obtain ⟨⟨l⟩⟩ := s
  rw [ByteArray.extract_mk]

theorem bytes_extract (s : ByteArray) (a b : Nat) : bytesOf (s.extract a b) = ((bytesOf s).drop a).take (b - a) := by
  unfold bytesOf
  rw [ext_data, List.map_take, List.map_drop]

theorem bytes_get (s : ByteArray) (i : Nat) (h : i < s.size) : (bytesOf s)[i]? = some (bt s i) := by
  rw [← rd_bytesOf]
  have h' : i < (bytesOf s).length := by rw [bytesOf_length]; exact h
  simp [rd, List.getElem?_eq_getElem h']

theorem split_loop (s : ByteArray) (b : Int) (hn : s.size ≤ 1048576) (d : Nat) : ∀ (i f : Nat) (out : List ByteArray), i + d = s.size → f ≤ i → out.length ≤ i →
    jn b out = (bytesOf s).take f → (∀ p ∈ out, b ∉ bytesOf p) → b ∉ ((bytesOf s).drop f).take (i - f) →
    ∃ r last, r.length ≤ s.size ∧ (∀ k, d + 1 < k → spec_SplitByte.l0 k s b out f i = some (r ++ [last]) ∧ impl_SplitByte.l0 k s b out f s.size i = some (r ++ [last])) ∧
      jn b r ++ bytesOf last = bytesOf s ∧ (∀ p ∈ r, b ∉ bytesOf p) ∧ b ∉ bytesOf last ∧ (b ∉ ((bytesOf s).drop i) → r = out) := by
  induction d with
  | zero =>
    intro i f out hi hf ho hj hp hq
    have his : i = s.size := by omega
    subst his
    refine ⟨out, s.extract f s.size, ho, fun k hk => ?_, ?_, hp, ?_, fun _ => rfl⟩
    · obtain ⟨k, rfl⟩ : ∃ m, k = m + 2 := ⟨k - 2, by omega⟩
      have hw1 : wrap64 ((s.size : Int) + 1) = (s.size : Int) + 1 := by unfold wrap64; omega
      constructor
      · rw [spec_SplitByte.l0, if_pos (by omega), if_pos rfl, if_pos (by omega), if_pos (by omega), if_pos (by omega), hw1, spec_SplitByte.l0, if_neg (by omega)]
        simp
      · rw [impl_SplitByte.l0, if_neg (by omega), if_pos (by omega), if_pos (by omega), if_pos (by omega)]
        simp
    · rw [bytes_extract, hj, List.take_of_length_le (i := s.size - f) (by rw [List.length_drop, bytesOf_length]; omega)]
      exact List.take_append_drop ..
    · rw [bytes_extract]; exact hq
  | succ d ih =>
    intro i f out hi hf ho hj hp hq
    have hlt : i < s.size := by omega
    have hw1 : wrap64 ((i : Int) + 1) = ((i + 1 : Nat) : Int) := by unfold wrap64; omega
    have hg := bytes_get s i hlt
    have hl : (bytesOf s).length = s.size := bytesOf_length s
    have hnext : ((bytesOf s).drop f).take (i + 1 - f) = ((bytesOf s).drop f).take (i - f) ++ [bt s i] := by
      have h1 : i - f < ((bytesOf s).drop f).length := by rw [List.length_drop]; omega
      have e : i + 1 - f = (i - f) + 1 := by omega
      rw [e, List.take_succ_eq_append_getElem h1]
      congr 2
      have h2 : ((bytesOf s).drop f)[i - f]? = some (bt s i) := by rw [List.getElem?_drop, show f + (i - f) = i by omega]; exact hg
      rw [List.getElem?_eq_getElem h1] at h2
      exact Option.some.inj h2
    have hdrop : (bytesOf s).drop i = bt s i :: (bytesOf s).drop (i + 1) := by
      rw [List.drop_eq_getElem_cons (by omega)]
      congr 1
      rw [List.getElem?_eq_getElem (by omega)] at hg
      exact Option.some.inj hg
    by_cases hb : bt s i = b
    · obtain ⟨r, last, h1, h2, h3, h4, h5, h6⟩ := ih (i + 1) (i + 1) (out ++ [s.extract f i]) (by omega) (by omega) (by simp; omega)
        (by
          unfold jn at hj ⊢
          rw [List.flatMap_append, hj]
          simp only [List.flatMap_cons, List.flatMap_nil, List.append_nil]
          rw [bytes_extract, ← List.append_assoc]
          have e : i = f + (i - f) := by omega
          have h7 : (bytesOf s).take f ++ ((bytesOf s).drop f).take (i - f) = (bytesOf s).take i := by
            conv => rhs; rw [e, List.take_add]
          rw [h7, List.take_succ_eq_append_getElem (by omega)]
          congr 2
          rw [List.getElem?_eq_getElem (by omega)] at hg
          rw [Option.some.inj hg, hb])
        (by
          intro p hp'
          rcases List.mem_append.1 hp' with hp' | hp'
          · exact hp p hp'
          · rw [List.mem_singleton.1 hp', bytes_extract]; exact hq)
        (by simp)
      refine ⟨r, last, h1, fun k hk => ?_, h3, h4, h5, fun h => absurd (by rw [hdrop, hb]; simp) h⟩
      obtain ⟨k, rfl⟩ : ∃ m, k = m + 1 := ⟨k - 1, by omega⟩
      have := h2 k (by omega)
      constructor
      · rw [spec_SplitByte.l0, if_pos (by omega), if_neg (by omega), if_pos (by omega), if_pos (by omega), if_pos hb, if_pos (by omega), if_pos (by omega), if_pos (by omega), hw1]
        simpa using this.1
      · rw [impl_SplitByte.l0, if_pos (by omega), if_pos (by omega), if_pos (by omega), if_pos hb, if_pos (by omega), if_pos (by omega), if_pos (by omega), if_pos (by omega), hw1]
        simpa using this.2
    · obtain ⟨r, last, h1, h2, h3, h4, h5, h6⟩ := ih (i + 1) f out (by omega) (by omega) (by omega) hj hp
        (by
          rw [hnext]
          intro h
          rcases List.mem_append.1 h with h | h
          · exact hq h
          · exact hb (List.mem_singleton.1 h).symm)
      refine ⟨r, last, h1, fun k hk => ?_, h3, h4, h5, fun h => h6 (fun h' => h (by rw [hdrop]; exact List.mem_cons_of_mem _ h'))⟩
      obtain ⟨k, rfl⟩ : ∃ m, k = m + 1 := ⟨k - 1, by omega⟩
      have := h2 k (by omega)
      constructor
      · rw [spec_SplitByte.l0, if_pos (by omega), if_neg (by omega), if_pos (by omega), if_pos (by omega), if_neg hb, hw1]
        exact this.1
      · rw [impl_SplitByte.l0, if_pos (by omega), if_pos (by omega), if_pos (by omega), if_neg hb, hw1]
        exact this.2

/-- What both SplitBytes answer. -/
theorem split_f (s : ByteArray) (b : Int) (hn : s.size ≤ 1048576) : ∃ r last, r.length ≤ s.size ∧ (∀ k, s.size + 1 < k → spec_SplitByte.f k s b = some (r ++ [last]) ∧ impl_SplitByte.f k s b = some (r ++ [last])) ∧
    jn b r ++ bytesOf last = bytesOf s ∧ (∀ p ∈ r, b ∉ bytesOf p) ∧ b ∉ bytesOf last ∧ (b ∉ bytesOf s → r = []) := by
  obtain ⟨r, last, h1, h2, h3, h4, h5, h6⟩ := split_loop s b hn s.size 0 0 [] (by omega) (by omega) (by simp) (by simp [jn]) (by simp) (by simp)
  exact ⟨r, last, h1, fun k hk => h2 k hk, h3, h4, h5, fun h => h6 (by simpa using h)⟩

theorem FnExactSplitByte : laws_FnExactSplitByte.Pure := by
  intro s b hn hb
  by_cases hbig : (s.size : Int) > 1048576
  · exact ⟨0, by simp only [laws_FnExactSplitByte.f]; rw [if_pos hbig]⟩
  obtain ⟨r, last, h1, h2, _⟩ := split_f s b (by omega)
  obtain ⟨l', m1, m2, m3⟩ := mark_f (r ++ [last]) (by simp; omega)
  refine ⟨s.size + 100, ?_⟩
  have hlen : (r ++ [last]).length ≤ s.size + 1 := by simp; omega
  obtain ⟨h3, h4⟩ := h2 (s.size + 100) (by omega)
  simp only [laws_FnExactSplitByte.f]
  rw [if_neg hbig, h3, h4]
  simp only [Option.bind_some]
  rw [eq_f (r ++ [last]) (by omega) _ (by omega)]
  simp only [Option.bind_some, if_true]
  rw [m1 _ (by omega)]
  simp only [Option.bind_some]
  rw [m2 _ (by omega)]
  simp only [Option.bind_some]
  rw [if_neg (by omega)]
  simp; omega

end Go.Proofs.Yteagmmcglbcifaa.Pure
