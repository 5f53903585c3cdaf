/- Sizes and depths of drawn types are those of their parts, for every code (of at most 2^47 - 4096 bytes). -/
import Derived.Test.YtingaflikkeefaaXBx18
namespace Go.Proofs.Ytingaflikkeefaa.Pure
open Go.RowKit Go.Proofs.Ytingaflikkeefaa.XB Go.Proofs.YtingaflikkeefaaW.PrintWords Go.Proofs.YtingaflikkeefaaW.PrintLast

set_option linter.unusedSimpArgs false
set_option linter.unusedVariables false

theorem w64 {n : Int} (h : -9223372036854775808 ≤ n) (h' : n ≤ 9223372036854775807) : wrap64 n = n := by unfold wrap64; omega
theorem cast1 (i : Nat) : (i : Int) + 1 = ((i + 1 : Nat) : Int) := by omega
theorem succ_of {d k : Nat} (h : d < k) : ∃ m, k = m + 1 := ⟨k - 1, by omega⟩

theorem rd_at (l : List ByteArray) (i : Nat) (h : i < l.length) : rdOf ByteArray.empty l (i : Int) = l[i] := by
  simp [rdOf, h]

/-- How many bytes the strings have together. -/
def tot (l : List ByteArray) : Nat := (l.map ByteArray.size).sum

theorem tot_cons (p : ByteArray) (l : List ByteArray) : tot (p :: l) = p.size + tot l := by simp only [tot, List.map_cons, List.sum_cons]

theorem tot_drop (l : List ByteArray) (i : Nat) (h : i < l.length) : tot (l.drop i) = l[i].size + tot (l.drop (i + 1)) := by
  rw [List.drop_eq_getElem_cons h, tot_cons]

theorem tot_mem (r : List ByteArray) (p : ByteArray) (h : p ∈ r) : p.size ≤ tot r := by
  induction r with
  | nil => simp at h
  | cons q r ih =>
    have e := tot_cons q r
    rcases List.mem_cons.1 h with rfl | h
    · omega
    · have := ih h; omega

theorem rdIT (l : List S30) (i : Nat) (h : i < l.length) : rd_T30 l (i : Int) = l[i] := by simp [rd_T30, h]

mutual
/-- How many types it holds, itself among them. -/
def ndT : S30 → Nat
  | ⟨_, _, l⟩ => ndsT l + 1
def ndsT : List S30 → Nat
  | [] => 0
  | x :: xs => ndT x + ndsT xs
end

theorem ndT_eq (y : S30) : ndT y = ndsT y.f2 + 1 := by cases y; simp only [ndT]
theorem ndsT_drop (l : List S30) (i : Nat) (h : i < l.length) : ndsT (l.drop i) = ndT l[i] + ndsT (l.drop (i + 1)) := by
  rw [List.drop_eq_getElem_cons h, ndsT]
theorem ndsT_len (l : List S30) : l.length ≤ ndsT l := by
  induction l with
  | nil => simp [ndsT]
  | cons x xs ih => have := ndT_eq x; simp only [ndsT, List.length_cons]; omega
theorem ndsT_mem (l : List S30) (z : S30) (h : z ∈ l) : ndT z ≤ ndsT l := by
  induction l with
  | nil => simp at h
  | cons x xs ih =>
    simp only [ndsT]
    rcases List.mem_cons.1 h with rfl | h
    · omega
    · have := ih h; omega

/-- Within bounds, all the way down. -/
inductive SmT : S30 → Prop
  | mk (y : S30) (h0 : -9223372036854775808 ≤ y.f0 ∧ y.f0 ≤ 9223372036854775807) (h1 : y.f1.length ≤ 1048576 ∧ ∀ s ∈ y.f1, s.size ≤ 1048576) (h2 : y.f2.length ≤ 1048576) (h3 : ∀ z ∈ y.f2, SmT z) : SmT y

theorem wf64T {n : Int} (h : (Lit.int .i64 n).wf = true) : -9223372036854775808 ≤ n ∧ n ≤ 9223372036854775807 := by
  simpa [Lit.wf, IntKind.min, IntKind.max, IntKind.signed, IntKind.bits] using h

theorem sizeTI_f (y : S30) (sm : SmT y) (hn : ndT y ≤ 1048577) : Ev (fun k => impl_SizeOfType.f k y.f0 y.f1 y.f2) (ndT y) := by
  induction sm with
  | mk y g0 g1 h3 h4 ih =>
    have he := ndT_eq y
    have loop : ∀ d i (a : Int), i + d = y.f2.length → 0 ≤ a → a + ndsT (y.f2.drop i) ≤ 1048577 → Ev (fun k => impl_SizeOfType.l0 k a y.f2 y.f2.length i) (a + ndsT (y.f2.drop i)) := by
      intro d
      induction d with
      | zero =>
        intro i a hi ha hb
        have e0 : (ndsT (y.f2.drop i) : Int) = 0 := by rw [List.drop_of_length_le (by omega)]; simp [ndsT]
        rw [e0, Int.add_zero]
        refine ⟨1, fun k hk => ?_⟩
        obtain ⟨k, rfl⟩ := succ_of (show 0 < k by omega)
        simp (disch := omega) only [impl_SizeOfType.l0, if_neg]
      | succ d ihd =>
        intro i a hi ha hb
        have hlt : i < y.f2.length := by omega
        rw [ndsT_drop y.f2 i hlt] at hb ⊢
        have hm := ndsT_mem y.f2 _ (List.getElem_mem hlt)
        obtain ⟨K2, e2⟩ := ih y.f2[i] (List.getElem_mem hlt) (by omega)
        obtain ⟨K4, e4⟩ := ihd (i + 1) (a + ndT y.f2[i]) (by omega) (by omega) (by omega)
        have ea : a + ((ndT y.f2[i] + ndsT (y.f2.drop (i + 1)) : Nat) : Int) = a + ndT y.f2[i] + ndsT (y.f2.drop (i + 1)) := by omega
        rw [ea]
        refine ⟨K2 + K4 + 1, fun k hk => ?_⟩
        obtain ⟨k, rfl⟩ := succ_of (show 0 < k by omega)
        simp (disch := omega) only [impl_SizeOfType.l0, rdIT, if_pos, e2, Option.bind_some, w64, cast1, e4]
    obtain ⟨K4, e4⟩ := loop y.f2.length 0 1 (by omega) (by omega) (by simp only [List.drop_zero]; omega)
    have ea : (1 : Int) + ndsT (y.f2.drop 0) = ndT y := by simp only [List.drop_zero]; omega
    rw [ea] at e4
    refine ⟨K4 + 1, fun k hk => ?_⟩
    obtain ⟨k, rfl⟩ := succ_of (show 0 < k by omega)
    simp only [impl_SizeOfType.f]; exact e4 k (by omega)

mutual
/-- How deep a type is. -/
def dpT : S30 → Nat
  | ⟨_, _, l⟩ => dpsT l + 1
def dpsT : List S30 → Nat
  | [] => 0
  | x :: xs => max (dpT x) (dpsT xs)
end

theorem dpT_eq (y : S30) : dpT y = dpsT y.f2 + 1 := by cases y; simp only [dpT]
theorem dpsT_drop (l : List S30) (i : Nat) (h : i < l.length) : dpsT (l.drop i) = max (dpT l[i]) (dpsT (l.drop (i + 1))) := by
  rw [List.drop_eq_getElem_cons h, dpsT]
mutual
theorem dpT_le : ∀ y : S30, dpT y ≤ ndT y
  | ⟨a, b, l⟩ => by simp only [dpT, ndT]; have := dpsT_le l; omega
theorem dpsT_le : ∀ l : List S30, dpsT l ≤ ndsT l
  | [] => by simp [dpsT, ndsT]
  | x :: xs => by simp only [dpsT, ndsT]; have := dpT_le x; have := dpsT_le xs; omega
end

theorem mx_nat (a b : Nat) : mx (a : Int) (b : Int) = ((max a b : Nat) : Int) := by unfold mx; split <;> omega

theorem depthT_f (y : S30) (sm : SmT y) (hn : ndT y ≤ 1048577) : Ev (fun k => spec_DepthOfType.f k y.f0 y.f1 y.f2) (dpT y) ∧ Ev (fun k => impl_DepthOfType.f k y.f0 y.f1 y.f2) (dpT y) := by
  induction sm with
  | mk y g0 g1 h3 h4 ih =>
    have he := ndT_eq y
    have hd := dpT_eq y
    have hle := dpT_le y
    have loop : ∀ d i (a : Nat), i + d = y.f2.length → a ≤ 1048577 → Ev (fun k => spec_DepthOfType.l0 k a i y.f0 y.f1 y.f2) ((max a (dpsT (y.f2.drop i)) + 1 : Nat) : Int) ∧ Ev (fun k => impl_DepthOfType.l0 k a y.f2 y.f2.length i) ((max a (dpsT (y.f2.drop i)) + 1 : Nat) : Int) := by
      intro d
      induction d with
      | zero =>
        intro i a hi ha
        have e0 : dpsT (y.f2.drop i) = 0 := by rw [List.drop_of_length_le (by omega)]; simp [dpsT]
        have e1 : max a (dpsT (y.f2.drop i)) + 1 = a + 1 := by omega
        rw [e1]
        refine ⟨⟨1, fun k hk => ?_⟩, ⟨1, fun k hk => ?_⟩⟩ <;> obtain ⟨k, rfl⟩ := succ_of (show 0 < k by omega)
        · simp (disch := omega) only [spec_DepthOfType.l0, if_neg, w64, cast1]
        · simp (disch := omega) only [impl_DepthOfType.l0, if_neg, w64, cast1]
      | succ d ihd =>
        intro i a hi ha
        have hlt : i < y.f2.length := by omega
        have hm := ndsT_mem y.f2 _ (List.getElem_mem hlt)
        have hz := dpT_le y.f2[i]
        rw [dpsT_drop y.f2 i hlt]
        obtain ⟨⟨K1, e1⟩, ⟨K2, e2⟩⟩ := ih y.f2[i] (List.getElem_mem hlt) (by omega)
        obtain ⟨⟨K3, e3⟩, ⟨K4, e4⟩⟩ := ihd (i + 1) (max a (dpT y.f2[i])) (by omega) (by omega)
        have ea : max a (max (dpT y.f2[i]) (dpsT (y.f2.drop (i + 1)))) = max (max a (dpT y.f2[i])) (dpsT (y.f2.drop (i + 1))) := by omega
        rw [ea]
        refine ⟨⟨K1 + K3 + 1, fun k hk => ?_⟩, ⟨K2 + K4 + 1, fun k hk => ?_⟩⟩ <;> obtain ⟨k, rfl⟩ := succ_of (show 0 < k by omega)
        · have em : spec_l1Max.f (a : Int) (dpT y.f2[i] : Int) = some ((max a (dpT y.f2[i]) : Nat) : Int) := by
            unfold spec_l1Max.f; split <;> congr 1 <;> omega
          simp (disch := omega) only [spec_DepthOfType.l0, rdIT, if_pos, e1, Option.bind_some, em, w64, cast1, e3]
        · simp (disch := omega) only [impl_DepthOfType.l0, rdIT, if_pos, e2, Option.bind_some, mx_nat, w64, cast1, e4]
    obtain ⟨⟨K3, e3⟩, ⟨K4, e4⟩⟩ := loop y.f2.length 0 0 (by omega) (by omega)
    have ea : max 0 (dpsT (y.f2.drop 0)) + 1 = dpT y := by simp only [List.drop_zero]; omega
    rw [ea] at e3 e4
    refine ⟨⟨K3 + 1, fun k hk => ?_⟩, ⟨K4 + 1, fun k hk => ?_⟩⟩ <;> obtain ⟨k, rfl⟩ := succ_of (show 0 < k by omega)
    · simp only [spec_DepthOfType.f]; exact e3 k (by omega)
    · simp only [impl_DepthOfType.f]; exact e4 k (by omega)

theorem leftT_f (y : S30) (sm : SmT y) (hn : ndT y ≤ 1048577) : ∀ left : Int, 0 ≤ left → left ≤ 1048576 → ∃ r, Ev (fun k => spec_l3Left.f k y.f0 y.f1 y.f2 left) r ∧ r ≤ 1048576 ∧ ((ndT y : Int) ≤ left → r = left - ndT y) ∧ (left < (ndT y : Int) → r < 0) := by
  induction sm with
  | mk y g0 g1 h3 h4 ih =>
    intro left g0 g1
    have he := ndT_eq y
    have loop : ∀ d i (a : Int), i + d = y.f2.length → -1 ≤ a → a ≤ 1048576 → ∃ r, Ev (fun k => spec_l3Left.l0 k a i y.f0 y.f1 y.f2) r ∧ r ≤ 1048576 ∧ ((ndsT (y.f2.drop i) : Int) ≤ a → r = a - ndsT (y.f2.drop i)) ∧ (a < (ndsT (y.f2.drop i) : Int) → r < 0) := by
      intro d
      induction d with
      | zero =>
        intro i a hi ha hb
        have e0 : (ndsT (y.f2.drop i) : Int) = 0 := by rw [List.drop_of_length_le (by omega)]; simp [ndsT]
        rw [e0]
        refine ⟨a, ⟨1, fun k hk => ?_⟩, hb, fun _ => by omega, fun h => h⟩
        obtain ⟨k, rfl⟩ := succ_of (show 0 < k by omega)
        simp (disch := omega) only [spec_l3Left.l0, if_neg]
      | succ d ihd =>
        intro i a hi ha hb
        have hlt : i < y.f2.length := by omega
        rw [ndsT_drop y.f2 i hlt]
        have hm := ndsT_mem y.f2 _ (List.getElem_mem hlt)
        have hp := ndT_eq y.f2[i]
        by_cases hneg : a < 0
        · refine ⟨a, ⟨1, fun k hk => ?_⟩, hb, fun _ => by omega, fun _ => hneg⟩
          obtain ⟨k, rfl⟩ := succ_of (show 0 < k by omega)
          simp (disch := omega) only [spec_l3Left.l0, if_pos, if_neg]
        · obtain ⟨r1, ⟨K1, e1⟩, hb1, q1, q2⟩ := ih y.f2[i] (List.getElem_mem hlt) (by omega) a (by omega) hb
          by_cases hr : (ndT y.f2[i] : Int) ≤ a
          · have hr1 := q1 hr
            obtain ⟨r, ⟨K3, e3⟩, hb3, q3, q4⟩ := ihd (i + 1) r1 (by omega) (by omega) hb1
            refine ⟨r, ⟨K1 + K3 + 1, fun k hk => ?_⟩, hb3, fun h => by rw [q3 (by omega)]; omega, fun h => q4 (by omega)⟩
            obtain ⟨k, rfl⟩ := succ_of (show 0 < k by omega)
            simp (disch := omega) only [spec_l3Left.l0, rdIT, if_pos, e1, Option.bind_some, w64, cast1, e3]
          · have hr1 := q2 (by omega)
            refine ⟨r1, ⟨K1 + 2, fun k hk => ?_⟩, hb1, fun h => by omega, fun _ => hr1⟩
            obtain ⟨k, rfl⟩ : ∃ m, k = m + 2 := ⟨k - 2, by omega⟩
            have e1' := e1 (k + 1) (by omega)
            simp (disch := omega) only [spec_l3Left.l0, rdIT, if_pos, e1', Option.bind_some, w64, cast1, if_neg, ite_self]
    obtain ⟨r, ⟨K3, e3⟩, hb3, q3, q4⟩ := loop y.f2.length 0 (left - 1) (by omega) (by omega) (by omega)
    rw [List.drop_zero] at q3 q4
    refine ⟨r, ⟨K3 + 1, fun k hk => ?_⟩, hb3, fun h => by rw [q3 (by omega)]; omega, fun h => q4 (by omega)⟩
    obtain ⟨k, rfl⟩ := succ_of (show 0 < k by omega)
    have e3' := e3 k (by omega)
    simp only [Int.natCast_zero] at e3'
    simp (disch := omega) only [spec_l3Left.f, w64, e3']


/-- May this byte stand at this place of a name? -/
def okb (s : ByteArray) (i : Int) : Bool := if 97 ≤ bt s i ∧ bt s i ≤ 122 then true else if i = 0 then false else decide (48 ≤ bt s i ∧ bt s i ≤ 57)

/-- So many bytes from a place on may stand in a name. -/
def okn (s : ByteArray) : Nat → Int → Bool
  | 0, _ => true
  | d + 1, i => okb s i && okn s d (i + 1)

theorem byte_ok (s : ByteArray) (i : Int) : impl_nameByte.f (bt s i) (i == 0) = some (okb s i) := by
  unfold impl_nameByte.f okb
  by_cases h0 : i = 0
  · subst h0
    by_cases h1 : bt s 0 ≥ 97 <;> by_cases h2 : bt s 0 ≤ 122 <;> simp [h1, h2]
  · by_cases h1 : bt s i ≥ 97 <;> by_cases h2 : bt s i ≤ 122 <;> by_cases h3 : bt s i ≥ 48 <;> by_cases h4 : bt s i ≤ 57 <;> first | (exfalso; omega) | simp [h0, h1, h2, h3, h4]

theorem okb_ite (s : ByteArray) (i : Int) : (if bt s i ≥ 97 then (if bt s i ≤ 122 then true else (if i = 0 then false else (if bt s i < 48 then false else (if bt s i > 57 then false else true)))) else (if i = 0 then false else (if bt s i < 48 then false else (if bt s i > 57 then false else true)))) = okb s i := by
  unfold okb
  by_cases h2 : bt s i ≥ 97 <;> by_cases h3 : bt s i ≤ 122 <;> by_cases h5 : bt s i < 48 <;> by_cases h6 : bt s i > 57 <;> by_cases h4 : i = 0 <;> first | (exfalso; omega) | (have e1 : 48 ≤ bt s i := by omega) | skip
  all_goals first | (have e2 : ¬ 48 ≤ bt s i := by omega) | skip
  all_goals first | (have e3 : bt s i ≤ 57 := by omega) | (have e3 : ¬ bt s i ≤ 57 := by omega)
  all_goals simp [*]

theorem name_spec_loop (s : ByteArray) (hn : s.size ≤ 140737488351232) (d : Nat) : ∀ (k : Nat) (i : Int), 0 ≤ i → i + d = s.size → d < k →
    spec_IsName.l0 k s i = some (okn s d i && (decide (1 ≤ s.size) && decide (s.size ≤ 4))) := by
  induction d with
  | zero =>
    intro k i h0 h1 hk
    obtain ⟨k, rfl⟩ := succ_of hk
    simp only [spec_IsName.l0, spec_l1In.f]
    rw [if_neg (by omega)]
    have e : decide ((s.size : Int) ≤ 4) = decide (s.size ≤ 4) := decide_eq_decide.mpr (by omega)
    by_cases h : (s.size : Int) ≥ 1
    · have h' : 1 ≤ s.size := by omega
      rw [if_pos h, e]; simp [h', okn]
    · have h' : s.size = 0 := by omega
      rw [if_neg h]; simp [h', okn]
  | succ d ih =>
    intro k i h0 h1 hk
    obtain ⟨k, rfl⟩ := succ_of hk
    have hi := ih k (i + 1) (by omega) (by omega) (by omega)
    simp (disch := omega) only [spec_IsName.l0, if_pos, w64]
    rw [hi]
    simp only [okn]
    rw [← okb_ite]
    repeat' split
    all_goals first | (exfalso; omega) | simp_all

theorem name_impl_loop (s : ByteArray) (hn : s.size ≤ 140737488351232) (d : Nat) : ∀ (k : Nat) (i : Int), 0 ≤ i → i + d = s.size → d < k →
    impl_IsName.l0 k s (s.size : Int) i = some (okn s d i) := by
  induction d with
  | zero =>
    intro k i h0 h1 hk
    obtain ⟨k, rfl⟩ := succ_of hk
    simp (disch := omega) only [impl_IsName.l0, if_neg, okn]
  | succ d ih =>
    intro k i h0 h1 hk
    obtain ⟨k, rfl⟩ := succ_of hk
    have hi := ih k (i + 1) (by omega) (by omega) (by omega)
    simp (disch := omega) only [impl_IsName.l0, if_pos, w64, byte_ok]
    rw [hi]
    simp only [okn, Option.bind_some]
    cases okb s i <;> simp

/-- Is this a name? -/
def nmok (s : ByteArray) : Bool := okn s s.size 0 && (decide (1 ≤ s.size) && decide (s.size ≤ 4))

theorem name_spec (s : ByteArray) (hn : s.size ≤ 140737488351232) (k : Nat) (hk : s.size < k) : spec_IsName.f k s = some (nmok s) :=
  name_spec_loop s hn s.size k 0 (by omega) (by omega) hk

theorem name_impl (s : ByteArray) (hn : s.size ≤ 140737488351232) (k : Nat) (hk : s.size + 1 < k) : impl_IsName.f k s = some (nmok s) := by
  obtain ⟨k, rfl⟩ := succ_of hk
  have hi := name_impl_loop s hn s.size k 0 (by omega) (by omega) (by omega)
  unfold nmok
  simp only [impl_IsName.f, impl_IsName.j0, hi]
  by_cases h : (s.size : Int) = 0
  · have h' : s.size = 0 := by omega
    rw [if_pos h]; simp [h']
  · have h' : 1 ≤ s.size := by omega
    rw [if_neg h]
    by_cases h4 : (s.size : Int) > 4
    · have h4' : ¬ s.size ≤ 4 := by omega
      simp [h4, h4']
    · have h4' : s.size ≤ 4 := by omega
      simp [h', h4']; omega

theorem nmok_empty : nmok ⟨#[]⟩ = false := by decide

theorem nmok_size {s : ByteArray} (h : nmok s = true) : s.size ≤ 4 := by
  unfold nmok at h
  simp at h
  omega

/-- Do the texts from the i-th on ascend, so many of them? -/
def ascN (l : List ByteArray) : Nat → Nat → Bool
  | 0, _ => true
  | d + 1, i => if i < l.length then (Op.bytesLess ((rdOf ByteArray.empty l ((i : Int) - 1)).toList) ((rdOf ByteArray.empty l (i : Int)).toList) && ascN l d (i + 1)) else true
def asc (l : List ByteArray) : Bool := ascN l l.length 1

theorem asc_loop (l : List ByteArray) (hl : l.length ≤ 1048576) (d : Nat) : ∀ (i : Nat), 1 ≤ i → l.length ≤ i + d → ∀ k, d < k → spec_AreAscending.l0 k l i = some (ascN l d i) ∧ impl_AreAscending.l0 k l i = some (ascN l d i) := by
  induction d with
  | zero =>
    intro i h1 hi k hk
    obtain ⟨k, rfl⟩ := succ_of hk
    simp (disch := omega) only [spec_AreAscending.l0, impl_AreAscending.l0, if_neg, ascN, and_self]
  | succ d ih =>
    intro i h1 hi k hk
    obtain ⟨k, rfl⟩ := succ_of hk
    by_cases hlt : i < l.length
    · obtain ⟨r1, r2⟩ := ih (i + 1) (by omega) (by omega) k (by omega)
      by_cases he : (Op.bytesLess ((rdOf ByteArray.empty l ((i : Int) - 1)).toList) ((rdOf ByteArray.empty l (i : Int)).toList)) = true
      · simp (disch := omega) only [spec_AreAscending.l0, impl_AreAscending.l0, ascN, if_pos hlt, w64, cast1, if_pos, if_pos he, r1, r2, he, Bool.true_and, if_true, and_self]
      · simp (disch := omega) only [spec_AreAscending.l0, impl_AreAscending.l0, ascN, if_pos hlt, w64, cast1, if_pos, if_neg he, Bool.eq_false_iff.mpr he, Bool.false_and, Bool.false_eq_true, if_false, and_self]
    · simp (disch := omega) only [spec_AreAscending.l0, impl_AreAscending.l0, ascN, if_neg hlt, if_neg, and_self]

theorem asc_f (l : List ByteArray) (hl : l.length ≤ 1048576) (k : Nat) (hk : l.length < k) : spec_AreAscending.f k l = some (asc l) ∧ impl_AreAscending.f k l = some (asc l) := asc_loop l hl l.length 1 (by omega) (by omega) k hk

/-- Are these labels in order? -/
def lab (l : List ByteArray) : Bool := l.all nmok && (decide (1 ≤ l.length) && decide (l.length ≤ 4) && asc l)

theorem l1In_f (a b c : Int) : spec_l1In.f a b c = some (decide (b ≤ a) && decide (a ≤ c)) := by
  unfold spec_l1In.f
  by_cases h : a ≥ b
  · have h' : b ≤ a := h
    simp [h']
  · have h' : ¬ b ≤ a := h
    simp [h']

theorem all_drop (l : List ByteArray) (i : Nat) (h : i < l.length) : (l.drop i).all nmok = (nmok l[i] && (l.drop (i + 1)).all nmok) := by
  rw [List.drop_eq_getElem_cons h, List.all_cons]

theorem lab_f (l : List ByteArray) (hl : l.length ≤ 1048576) (hs : ∀ s ∈ l, s.size ≤ 1048576) : Ev (fun k => spec_l3Labels.f k l) (lab l) ∧ Ev (fun k => impl_labelsOk.f k l) (lab l) := by
  obtain ⟨K, hK⟩ : ∃ K, ∀ s ∈ l, s.size + 1 < K := ⟨tot l + 2, fun s h => by have := tot_mem l s h; omega⟩
  have c1 : decide ((1 : Int) ≤ (l.length : Int)) = decide (1 ≤ l.length) := decide_eq_decide.mpr (by omega)
  have c4 : decide ((l.length : Int) ≤ 4) = decide (l.length ≤ 4) := decide_eq_decide.mpr (by omega)
  have loop1 : ∀ d i, i + d = l.length → ∀ k, K + l.length + d + 1 < k → spec_l3Labels.l0 k l i = some ((l.drop i).all nmok && (decide (1 ≤ l.length) && decide (l.length ≤ 4) && asc l)) := by
    intro d
    induction d with
    | zero =>
      intro i hi k hk
      obtain ⟨k, rfl⟩ := succ_of (show 0 < k by omega)
      have ha := (asc_f l hl k (by omega)).1
      rw [List.drop_of_length_le (by omega)]
      simp (disch := omega) only [spec_l3Labels.l0, if_neg, l1In_f, Option.bind_some, ha, c1, c4]
      cases h : (decide (1 ≤ l.length) && decide (l.length ≤ 4)) <;> simp
    | succ d ih =>
      intro i hi k hk
      obtain ⟨k, rfl⟩ := succ_of (show 0 < k by omega)
      have hlt : i < l.length := by omega
      have hm := hs _ (List.getElem_mem hlt)
      have hm2 := hK _ (List.getElem_mem hlt)
      have hn := name_spec l[i] (by omega) k (by omega)
      have e := ih (i + 1) (by omega) k (by omega)
      rw [all_drop l i hlt]
      simp (disch := omega) only [spec_l3Labels.l0, rd_at, if_pos, hn, Option.bind_some, w64, cast1, e]
      cases nmok l[i] <;> simp
  have loop2 : ∀ d i, i + d = l.length → ∀ k, K + l.length + d + 1 < k → impl_labelsOk.l0 k l (l.length : Int) i = some ((l.drop i).all nmok) := by
    intro d
    induction d with
    | zero =>
      intro i hi k hk
      obtain ⟨k, rfl⟩ := succ_of (show 0 < k by omega)
      rw [List.drop_of_length_le (by omega)]
      simp (disch := omega) only [impl_labelsOk.l0, if_neg, List.all_nil]
    | succ d ih =>
      intro i hi k hk
      obtain ⟨k, rfl⟩ := succ_of (show 0 < k by omega)
      have hlt : i < l.length := by omega
      have hm := hs _ (List.getElem_mem hlt)
      have hm2 := hK _ (List.getElem_mem hlt)
      have hn := name_impl l[i] (by omega) k (by omega)
      have e := ih (i + 1) (by omega) k (by omega)
      rw [all_drop l i hlt]
      simp (disch := omega) only [impl_labelsOk.l0, rd_at, if_pos, hn, Option.bind_some, w64, cast1, e]
      cases nmok l[i] <;> simp
  refine ⟨⟨K + l.length + l.length + 2, fun k hk => ?_⟩, ⟨K + l.length + l.length + 3, fun k hk => ?_⟩⟩
  · exact loop1 l.length 0 (by omega) k (by omega)
  · have e := loop2 l.length 0 (by omega)
    simp only [List.drop_zero, Int.natCast_zero] at e
    obtain ⟨k, rfl⟩ := succ_of (show 0 < k by omega)
    have ha := (asc_f l hl (k + 1) (by omega)).2
    have e' := e k (by omega)
    simp only [impl_labelsOk.f, impl_labelsOk.j0, ha, Option.bind_some, e', lab]
    by_cases h1 : (l.length : Int) < 1
    · have h1' : ¬ 1 ≤ l.length := by omega
      simp [h1, h1']
    · have h1' : 1 ≤ l.length := by omega
      by_cases h4 : (l.length : Int) > 4
      · have h4' : ¬ l.length ≤ 4 := by omega
        simp only [if_neg h1, if_pos h4, if_true]
        simp [h1', h4']
      · have h4' : l.length ≤ 4 := by omega
        simp only [if_neg h1, if_neg h4]
        cases asc l <;> simp [h1', h4']

theorem dec_len (n : Nat) (c : Nat) : ((n : Int) == (c : Int)) = decide (n = c) := by
  by_cases h : n = c
  · subst h; simp
  · have h2 : ¬ (n : Int) = (c : Int) := by omega
    simp [h, h2]

/-- Is a type well formed, its parts left aside? -/
def lfT (y : S30) : Bool :=
  if y.f0 = 1 ∨ y.f0 = 2 then decide (y.f1.length = 0) && decide (y.f2.length = 0)
  else if y.f0 = 3 ∨ y.f0 = 4 then decide (y.f1.length = y.f2.length) && lab y.f1
  else if y.f0 = 5 then decide (y.f1.length = 0) && decide (y.f2.length = 1) else false

mutual
/-- Is a type well formed? -/
def fmT : S30 → Bool
  | ⟨a, b, l⟩ => fmsT l && lfT ⟨a, b, l⟩
def fmsT : List S30 → Bool
  | [] => true
  | x :: xs => fmT x && fmsT xs
end

theorem fmT_eq (y : S30) : fmT y = (fmsT y.f2 && lfT y) := by cases y; simp only [fmT]
theorem fmsT_drop (l : List S30) (i : Nat) (h : i < l.length) : fmsT (l.drop i) = (fmT l[i] && fmsT (l.drop (i + 1))) := by
  rw [List.drop_eq_getElem_cons h, fmsT]

theorem j_spec (y : S30) (h1 : y.f1.length ≤ 1048576) (h2 : ∀ s ∈ y.f1, s.size ≤ 1048576) (b : Bool) (hb : b = decide (y.f0 = 1 ∨ y.f0 = 2)) : Ev (fun k => spec_l3Form.j1 k y.f0 b y.f0 y.f1 y.f2) (lfT y) := by
  obtain ⟨⟨K, e⟩, -⟩ := lab_f y.f1 h1 h2
  refine ⟨K + 3, fun k hk => ?_⟩
  obtain ⟨k, rfl⟩ : ∃ m, k = m + 2 := ⟨k - 2, by omega⟩
  have e' := e k (by omega)
  have d0 := dec_len y.f2.length 0
  have d1 := dec_len y.f2.length 1
  simp only [Int.natCast_zero, Int.natCast_one] at d0 d1
  simp only [spec_l3Form.j1, spec_l3Form.j2, e', Option.bind_some, lfT, hb, d0, d1]
  by_cases a : y.f0 = 1 ∨ y.f0 = 2
  · by_cases z : y.f1.length = 0
    · have z' : y.f1 = [] := List.length_eq_zero_iff.mp z
      simp [a, z']
    · have z' : ¬ (y.f1.length : Int) = 0 := by omega
      simp only [a, decide_true, if_true, if_neg z', z, decide_false, Bool.false_and]
  · have s0 : decide (y.f0 = 1 ∨ y.f0 = 2) = false := by simpa using a
    have s1 : (if y.f0 = 3 then (y.f0 == 3) else (y.f0 == 4)) = decide (y.f0 = 3 ∨ y.f0 = 4) := by
      by_cases h3 : y.f0 = 3
      · simp [h3]
      · by_cases h4 : y.f0 = 4 <;> simp [h3, h4]
    rw [s0, if_neg (by simp), if_neg a]
    by_cases b3 : y.f0 = 3 ∨ y.f0 = 4
    · have t3 : (y.f0 == 3) = true ∨ (y.f0 ≠ 3 ∧ (y.f0 == 4) = true) := by
        rcases b3 with b3 | b3
        · exact .inl (by simp [b3])
        · exact .inr (by simp [b3])
      by_cases z : y.f1.length = y.f2.length
      · have z' : (y.f2.length : Int) = (y.f1.length : Int) := by omega
        rcases b3 with b3 | b3 <;> simp [b3, z', z]
      · have z' : ¬ (y.f2.length : Int) = (y.f1.length : Int) := by omega
        have z'' : ¬ y.f2.length = y.f1.length := by omega
        rcases b3 with b3 | b3 <;> simp [b3, z', z'', z]
    · have n3 : ¬ y.f0 = 3 := fun h => b3 (.inl h)
      have n4 : ¬ y.f0 = 4 := fun h => b3 (.inr h)
      by_cases h5 : y.f0 = 5
      · by_cases z : y.f1.length = 0
        · have z' : y.f1 = [] := List.length_eq_zero_iff.mp z
          simp [h5, z']
        · have z' : ¬ (y.f1.length : Int) = 0 := by omega
          simp only [h5, if_neg z']
          simp [z]
      · simp [n3, n4, h5]

theorem formT_spec (y : S30) (sm : SmT y) : Ev (fun k => spec_l3Form.f k y.f0 y.f1 y.f2) (fmT y) := by
  induction sm with
  | mk y h0 h1 h3 h4 ih =>
    obtain ⟨K0, e0⟩ := j_spec y h1.1 h1.2 (decide (y.f0 = 1 ∨ y.f0 = 2)) rfl
    have loop : ∀ d i, i + d = y.f2.length → Ev (fun k => spec_l3Form.l0 k i y.f0 y.f1 y.f2) (fmsT (y.f2.drop i) && lfT y) := by
      intro d
      induction d with
      | zero =>
        intro i hi'
        have e1 : fmsT (y.f2.drop i) = true := by rw [List.drop_of_length_le (by omega)]; simp [fmsT]
        rw [e1, Bool.true_and]
        refine ⟨K0 + 1, fun k hk => ?_⟩
        obtain ⟨k, rfl⟩ := succ_of (show 0 < k by omega)
        have e0' := e0 k (by omega)
        simp (disch := omega) only [spec_l3Form.l0, if_neg]
        by_cases a : y.f0 = 1
        · have s : (y.f0 == 1) = decide (y.f0 = 1 ∨ y.f0 = 2) := by simp [a]
          rw [if_pos a, s]; exact e0'
        · have s : (y.f0 == 2) = decide (y.f0 = 1 ∨ y.f0 = 2) := by
            by_cases a2 : y.f0 = 2 <;> simp [a, a2]
          rw [if_neg a, s]; exact e0'
      | succ d ihd =>
        intro i hi'
        have hlt : i < y.f2.length := by omega
        obtain ⟨K1, e1⟩ := ih y.f2[i] (List.getElem_mem hlt)
        obtain ⟨K2, e2⟩ := ihd (i + 1) (by omega)
        rw [fmsT_drop y.f2 i hlt]
        refine ⟨K1 + K2 + 1, fun k hk => ?_⟩
        obtain ⟨k, rfl⟩ := succ_of (show 0 < k by omega)
        simp (disch := omega) only [spec_l3Form.l0, rdIT, if_pos, e1, Option.bind_some, w64, cast1, e2]
        cases fmT y.f2[i] <;> simp
    obtain ⟨K, e⟩ := loop y.f2.length 0 (by omega)
    rw [fmT_eq]
    refine ⟨K + 1, fun k hk => ?_⟩
    obtain ⟨k, rfl⟩ := succ_of (show 0 < k by omega)
    have e' := e k (by omega)
    simp only [Int.natCast_zero, List.drop_zero] at e'
    simp only [spec_l3Form.f, e']

theorem formT_impl (y : S30) (sm : SmT y) : Ev (fun k => impl_typeFormed.f k y.f0 y.f1 y.f2) (fmT y) := by
  induction sm with
  | mk y h0 h1 h3 h4 ih =>
    obtain ⟨-, ⟨K0, e0⟩⟩ := lab_f y.f1 h1.1 h1.2
    have loop : ∀ d i, i + d = y.f2.length → ∀ b, Ev (fun k => impl_typeFormed.l0 k b y.f2 (y.f2.length : Int) i) (fmsT (y.f2.drop i) && b) := by
      intro d
      induction d with
      | zero =>
        intro i hi' b
        have e1 : fmsT (y.f2.drop i) = true := by rw [List.drop_of_length_le (by omega)]; simp [fmsT]
        rw [e1, Bool.true_and]
        refine ⟨1, fun k hk => ?_⟩
        obtain ⟨k, rfl⟩ := succ_of (show 0 < k by omega)
        simp (disch := omega) only [impl_typeFormed.l0, if_neg]
      | succ d ihd =>
        intro i hi' b
        have hlt : i < y.f2.length := by omega
        obtain ⟨K1, e1⟩ := ih y.f2[i] (List.getElem_mem hlt)
        obtain ⟨K2, e2⟩ := ihd (i + 1) (by omega) (fmT y.f2[i])
        obtain ⟨K3, e3⟩ := ihd (i + 1) (by omega) false
        rw [fmsT_drop y.f2 i hlt]
        refine ⟨K1 + K2 + K3 + 1, fun k hk => ?_⟩
        obtain ⟨k, rfl⟩ := succ_of (show 0 < k by omega)
        simp (disch := omega) only [impl_typeFormed.l0, rdIT, if_pos, e1, Option.bind_some, w64, cast1, e2, e3]
        cases b <;> cases fmT y.f2[i] <;> simp
    obtain ⟨K1, e1⟩ := loop y.f2.length 0 (by omega) true
    obtain ⟨K2, e2⟩ := loop y.f2.length 0 (by omega) false
    have eb : ∀ b, ∀ k, K1 + K2 ≤ k → impl_typeFormed.l0 k b y.f2 (y.f2.length : Int) 0 = some (fmsT y.f2 && b) := by
      intro b k hk
      cases b
      · have := e2 k (by omega); simpa using this
      · have := e1 k (by omega); simpa using this
    rw [fmT_eq]
    refine ⟨K0 + K1 + K2 + 4, fun k hk => ?_⟩
    obtain ⟨k, rfl⟩ : ∃ m, k = m + 4 := ⟨k - 4, by omega⟩
    have e0' := e0 (k + 1) (by omega)
    have d0 := dec_len y.f2.length 0
    have d1 := dec_len y.f2.length 1
    simp only [Int.natCast_zero, Int.natCast_one] at d0 d1
    simp (disch := omega) only [impl_typeFormed.f, impl_typeFormed.j0, impl_typeFormed.j1, impl_typeFormed.j2, e0', eb, Option.bind_some, lfT, d0, d1]
    by_cases a : y.f0 = 1 ∨ y.f0 = 2
    · by_cases z : y.f1.length = 0
      · have z' : y.f1 = [] := List.length_eq_zero_iff.mp z
        rcases a with a | a <;> simp [a, z']
      · have z' : ¬ (y.f1.length : Int) = 0 := by omega
        rcases a with a | a <;> simp only [a, if_neg z'] <;> simp [z]
    · have n1 : ¬ y.f0 = 1 := fun h => a (.inl h)
      have n2 : ¬ y.f0 = 2 := fun h => a (.inr h)
      have q2 : (y.f0 == 2) = false := by simpa using n2
      rw [if_neg n1, q2, if_neg (by simp), if_neg a]
      by_cases b3 : y.f0 = 3 ∨ y.f0 = 4
      · by_cases z : y.f1.length = y.f2.length
        · have z' : (y.f1.length : Int) = (y.f2.length : Int) := by omega
          rcases b3 with b3 | b3 <;> simp [b3, z', z]
        · have z' : ¬ (y.f1.length : Int) = (y.f2.length : Int) := by omega
          rcases b3 with b3 | b3 <;> simp [b3, z', z]
      · have n3 : ¬ y.f0 = 3 := fun h => b3 (.inl h)
        have n4 : ¬ y.f0 = 4 := fun h => b3 (.inr h)
        by_cases h5 : y.f0 = 5
        · by_cases z : y.f1.length = 0
          · have z' : y.f1 = [] := List.length_eq_zero_iff.mp z
            simp [h5, z']
          · have z' : ¬ (y.f1.length : Int) = 0 := by omega
            simp only [h5, if_neg z']
            simp [z]
        · simp [n3, n4, h5]

/-- Is it a type? -/
def isT (y : S30) : Bool := decide (ndT y ≤ 30) && (decide (dpT y ≤ 8) && fmT y)

theorem isT_f (y : S30) (sm : SmT y) (hn : ndT y ≤ 1048577) : Ev (fun k => spec_IsValidType.f k y.f0 y.f1 y.f2) (isT y) ∧ Ev (fun k => impl_IsValidType.f k y.f0 y.f1 y.f2) (isT y) := by
  obtain ⟨r, ⟨K1, e1⟩, -, q1, q2⟩ := leftT_f y sm hn 30 (by omega) (by omega)
  obtain ⟨⟨K2, e2⟩, ⟨K3, e3⟩⟩ := depthT_f y sm hn
  obtain ⟨K4, e4⟩ := formT_spec y sm
  obtain ⟨K5, e5⟩ := formT_impl y sm
  obtain ⟨K6, e6⟩ := sizeTI_f y sm hn
  have c8 : ((dpT y : Int) ≤ 8) = (dpT y ≤ 8) := by apply propext; omega
  have c30 : ((ndT y : Int) ≤ 30) = (ndT y ≤ 30) := by apply propext; omega
  have cr : (r ≥ 0) = (ndT y ≤ 30) := by
    apply propext
    by_cases h : (ndT y : Int) ≤ 30
    · have := q1 h; omega
    · have := q2 (by omega); omega
  refine ⟨⟨K1 + K2 + K4, fun k hk => ?_⟩, ⟨K3 + K5 + K6, fun k hk => ?_⟩⟩
  · simp only [spec_IsValidType.f, e1 k (by omega), e2 k (by omega), e4 k (by omega), Option.bind_some, cr, c8, isT]
    by_cases a : ndT y ≤ 30 <;> by_cases b : dpT y ≤ 8 <;> simp [a, b]
  · simp only [impl_IsValidType.f, e6 k (by omega), e3 k (by omega), e5 k (by omega), Option.bind_some, c30, c8, isT]
    by_cases a : ndT y ≤ 30 <;> by_cases b : dpT y ≤ 8 <;> simp [a, b]

theorem strOf_bytes (s : ByteArray) : strOfNums (bytesOf s) = s := by
  obtain ⟨⟨l⟩⟩ := s
  have : (bytesOf ⟨⟨l⟩⟩).map (fun n => UInt8.ofNat n.toNat) = l := by
    simp [bytesOf, List.map_map, Function.comp_def]
  unfold strOfNums
  rw [this]

theorem bytes_inj {s t : ByteArray} (h : bytesOf s = bytesOf t) : s = t := by
  rw [← strOf_bytes s, h, strOf_bytes]

theorem ext_data (s : ByteArray) (a b : Nat) : (s.extract a b).data.toList = (s.data.toList.drop a).take (b - a) := by
  obtain ⟨⟨l⟩⟩ := s
  rw [ByteArray.extract_mk]

theorem bytes_extract (s : ByteArray) (a b : Nat) : bytesOf (s.extract a b) = ((bytesOf s).drop a).take (b - a) := by
  unfold bytesOf
  rw [ext_data, List.map_take, List.map_drop]

theorem bytes_append (s t : ByteArray) : bytesOf (s ++ t) = bytesOf s ++ bytesOf t := by
  obtain ⟨⟨l⟩⟩ := s
  obtain ⟨⟨m⟩⟩ := t
  simp [bytesOf]

theorem bytes_one (m : Nat) (h : m < 10) : bytesOf (strOfNums [48 + (m : Int)]) = [48 + (m : Int)] := by
  simp [bytesOf, strOfNums]; omega

theorem toList_iff (s t : ByteArray) : s.toList = t.toList ↔ s = t := by
  constructor
  · intro h
    rw [ByteArray.toList_eq, ByteArray.toList_eq] at h
    apply bytes_inj
    unfold bytesOf
    rw [h]
  · rintro rfl; rfl

theorem lst_step {α : Type} (a b : List α) (i : Nat) (ha : i < a.length) (hb : i < b.length) : (a.drop i = b.drop i) ↔ (a[i] = b[i] ∧ a.drop (i + 1) = b.drop (i + 1)) := by
  rw [List.drop_eq_getElem_cons ha, List.drop_eq_getElem_cons hb, List.cons.injEq]

open Classical in
theorem texts_f (l m : List ByteArray) (hl : l.length ≤ 1048576) : Ev (fun k => spec_l3Texts.f k l m) (decide (l = m)) ∧ Ev (fun k => impl_sameStrings.f k l m) (decide (l = m)) := by
  by_cases hlen : l.length = m.length
  · have hz : (l.length : Int) = (m.length : Int) := by omega
    have loop : ∀ d i, i + d = l.length → ∀ k, d < k → spec_l3Texts.l0 k l m i = some (decide (l.drop i = m.drop i)) ∧ impl_sameStrings.l0 k l m (l.length : Int) i = some (decide (l.drop i = m.drop i)) := by
      intro d
      induction d with
      | zero =>
        intro i hi k hk
        obtain ⟨k, rfl⟩ := succ_of (show 0 < k by omega)
        have e : l.drop i = m.drop i := by rw [List.drop_of_length_le (by omega), List.drop_of_length_le (by omega)]
        simp (disch := omega) only [spec_l3Texts.l0, impl_sameStrings.l0, if_neg, e, decide_true, and_self]
      | succ d ih =>
        intro i hi k hk
        obtain ⟨k, rfl⟩ := succ_of (show 0 < k by omega)
        have h1 : i < l.length := by omega
        have h2 : i < m.length := by omega
        obtain ⟨e1, e2⟩ := ih (i + 1) (by omega) k (by omega)
        have es : decide (l.drop i = m.drop i) = decide (l[i] = m[i] ∧ l.drop (i + 1) = m.drop (i + 1)) := decide_eq_decide.mpr (lst_step l m i h1 h2)
        rw [es]
        simp (disch := omega) only [spec_l3Texts.l0, impl_sameStrings.l0, rd_at, if_pos, w64, cast1, e1, e2, toList_iff]
        by_cases h : l[i] = m[i] <;> simp [h]
    refine ⟨⟨l.length + 1, fun k hk => ?_⟩, ⟨l.length + 1, fun k hk => ?_⟩⟩
    · have := (loop l.length 0 (by omega) k (by omega)).1
      simp only [List.drop_zero, Int.natCast_zero] at this
      simp only [spec_l3Texts.f, if_pos hz, this]
    · have := (loop l.length 0 (by omega) k (by omega)).2
      simp only [List.drop_zero, Int.natCast_zero] at this
      simp only [impl_sameStrings.f, if_pos hz, this]
  · have hz : ¬ (l.length : Int) = (m.length : Int) := by omega
    have hn : ¬ l = m := fun h => hlen (by rw [h])
    exact ⟨⟨0, fun k hk => by simp only [spec_l3Texts.f, if_neg hz, hn, decide_false]⟩, ⟨0, fun k hk => by simp only [impl_sameStrings.f, if_neg hz, hn, decide_false]⟩⟩

theorem sT_iff (y z : S30) : y = z ↔ (y.f0 = z.f0 ∧ y.f1 = z.f1 ∧ y.f2 = z.f2) := by
  cases y; cases z; simp

open Classical in
theorem eqT_f (y : S30) (sm : SmT y) : ∀ z : S30, Ev (fun k => spec_EqualType.f k y.f0 y.f1 y.f2 z.f0 z.f1 z.f2) (decide (y = z)) ∧ Ev (fun k => impl_EqualType.f k y.f0 y.f1 y.f2 z.f0 z.f1 z.f2) (decide (y = z)) := by
  induction sm with
  | mk y h0 h1 h3 h4 ih =>
    intro z
    obtain ⟨⟨K1, e1⟩, ⟨K2, e2⟩⟩ := texts_f y.f1 z.f1 h1.1
    have hi := sT_iff y z
    by_cases a0 : y.f0 = z.f0
    · by_cases a1 : y.f1 = z.f1
      · by_cases a2 : y.f2.length = z.f2.length
        · have loop : ∀ d i, i + d = y.f2.length → Ev (fun k => spec_EqualType.l0 k i y.f0 y.f1 y.f2 z.f0 z.f1 z.f2) (decide (y.f2.drop i = z.f2.drop i)) ∧ Ev (fun k => impl_EqualType.l0 k (y.f2.length : Int) i y.f0 y.f1 y.f2 z.f0 z.f1 z.f2) (decide (y.f2.drop i = z.f2.drop i)) := by
            intro d
            induction d with
            | zero =>
              intro i hi'
              have e : y.f2.drop i = z.f2.drop i := by rw [List.drop_of_length_le (by omega), List.drop_of_length_le (by omega)]
              simp only [e, decide_true]
              refine ⟨⟨1, fun k hk => ?_⟩, ⟨1, fun k hk => ?_⟩⟩ <;> obtain ⟨k, rfl⟩ := succ_of (show 0 < k by omega)
              · simp (disch := omega) only [spec_EqualType.l0, if_neg]
              · simp (disch := omega) only [impl_EqualType.l0, if_neg]
            | succ d ihd =>
              intro i hi'
              have b1 : i < y.f2.length := by omega
              have b2 : i < z.f2.length := by omega
              obtain ⟨⟨K3, e3⟩, ⟨K4, e4⟩⟩ := ih y.f2[i] (List.getElem_mem b1) z.f2[i]
              obtain ⟨⟨K5, e5⟩, ⟨K6, e6⟩⟩ := ihd (i + 1) (by omega)
              have es : decide (y.f2.drop i = z.f2.drop i) = decide (y.f2[i] = z.f2[i] ∧ y.f2.drop (i + 1) = z.f2.drop (i + 1)) := decide_eq_decide.mpr (lst_step y.f2 z.f2 i b1 b2)
              rw [es]
              refine ⟨⟨K3 + K5 + 1, fun k hk => ?_⟩, ⟨K4 + K6 + 1, fun k hk => ?_⟩⟩ <;> obtain ⟨k, rfl⟩ := succ_of (show 0 < k by omega)
              · simp (disch := omega) only [spec_EqualType.l0, rdIT, if_pos, e3, Option.bind_some, w64, cast1, e5]
                by_cases h : y.f2[i] = z.f2[i] <;> simp [h]
              · simp (disch := omega) only [impl_EqualType.l0, rdIT, if_pos, e4, Option.bind_some, w64, cast1, e6]
                by_cases h : y.f2[i] = z.f2[i] <;> simp [h]
          obtain ⟨⟨K3, e3⟩, ⟨K4, e4⟩⟩ := loop y.f2.length 0 (by omega)
          simp only [List.drop_zero, Int.natCast_zero] at e3 e4
          have hd : decide (y = z) = decide (y.f2 = z.f2) := decide_eq_decide.mpr ⟨fun h => (hi.1 h).2.2, fun h => hi.2 ⟨a0, a1, h⟩⟩
          have hb : ((y.f2.length : Int) != (z.f2.length : Int)) = false := by simp [a2]
          rw [hd]
          refine ⟨⟨K1 + K3 + 2, fun k hk => ?_⟩, ⟨K2 + K4 + 2, fun k hk => ?_⟩⟩ <;> obtain ⟨k, rfl⟩ : ∃ m, k = m + 2 := ⟨k - 2, by omega⟩
          · have e1' := e1 (k + 1) (by omega)
            simp only [a1, decide_true] at e1'
            have e3' := e3 k (by omega)
            simp only [spec_EqualType.f, spec_EqualType.j0, if_pos a0, e1', Option.bind_some, a1, decide_true, if_true, hb, Bool.false_eq_true, if_false]
            rw [a1] at e3'
            exact e3'
          · have e2' := e2 (k + 1) (by omega)
            simp only [a1, decide_true] at e2'
            have e4' := e4 k (by omega)
            simp only [impl_EqualType.f, impl_EqualType.j0, if_pos a0, e2', Option.bind_some, a1, decide_true, if_true, hb, Bool.false_eq_true, if_false]
            rw [a1] at e4'
            exact e4'
        · have hn : ¬ y = z := fun h => a2 (by rw [h])
          have hb : ((y.f2.length : Int) != (z.f2.length : Int)) = true := bne_iff_ne.mpr (by omega)
          simp only [hn, decide_false]
          refine ⟨⟨K1 + 2, fun k hk => ?_⟩, ⟨K2 + 2, fun k hk => ?_⟩⟩ <;> obtain ⟨k, rfl⟩ : ∃ m, k = m + 2 := ⟨k - 2, by omega⟩
          · have e1' := e1 (k + 1) (by omega)
            simp only [a1, decide_true] at e1'
            simp only [spec_EqualType.f, spec_EqualType.j0, if_pos a0, e1', Option.bind_some, a1, decide_true, if_true, hb]
          · have e2' := e2 (k + 1) (by omega)
            simp only [a1, decide_true] at e2'
            simp only [impl_EqualType.f, impl_EqualType.j0, if_pos a0, e2', Option.bind_some, a1, decide_true, if_true, hb]
      · have hn : ¬ y = z := fun h => a1 (by rw [h])
        simp only [hn, decide_false]
        refine ⟨⟨K1 + 2, fun k hk => ?_⟩, ⟨K2 + 2, fun k hk => ?_⟩⟩ <;> obtain ⟨k, rfl⟩ : ∃ m, k = m + 2 := ⟨k - 2, by omega⟩
        · have e1' := e1 (k + 1) (by omega)
          simp only [spec_EqualType.f, spec_EqualType.j0, if_pos a0, e1', Option.bind_some, a1, decide_false, if_true, Bool.false_eq_true, if_false]
        · have e2' := e2 (k + 1) (by omega)
          simp only [impl_EqualType.f, impl_EqualType.j0, if_pos a0, e2', Option.bind_some, a1, decide_false, if_true, Bool.false_eq_true, if_false]
    · have hn : ¬ y = z := fun h => a0 (by rw [h])
      simp only [hn, decide_false]
      refine ⟨⟨2, fun k hk => ?_⟩, ⟨2, fun k hk => ?_⟩⟩ <;> obtain ⟨k, rfl⟩ : ∃ m, k = m + 2 := ⟨k - 2, by omega⟩
      · simp only [spec_EqualType.f, spec_EqualType.j0, if_neg a0, if_true]
      · simp only [impl_EqualType.f, impl_EqualType.j0, if_neg a0, if_true]

open Classical in
theorem uni_f (y : S30) (sm : SmT y) (hn : ndT y ≤ 1048577) : ∃ r, Ev (fun k => spec_IsUniform.f k y.f0 y.f1 y.f2) r ∧ Ev (fun k => impl_IsUniform.f k y.f0 y.f1 y.f2) r := by
  obtain ⟨⟨K1, e1⟩, ⟨K2, e2⟩⟩ := isT_f y sm hn
  cases sm with
  | mk _ h0 h1 h3 h4 =>
    by_cases a : isT y = true ∧ (y.f0 != 3) = false
    · obtain ⟨a1, a2⟩ := a
      have hf : isT y = true → fmT y = true := fun h => by unfold isT at h; simp only [Bool.and_eq_true] at h; exact h.2.2
      have a3 : y.f0 = 3 := by simpa using a2
      have hl := hf a1
      rw [fmT_eq, Bool.and_eq_true] at hl
      have hlab := hl.2
      unfold lfT at hlab
      have hpos : 0 < y.f2.length := by
        simp [a3, lab] at hlab
        omega
      have loop : ∀ d i, i + d = y.f2.length → ∃ r, Ev (fun k => spec_IsUniform.l0 k i y.f0 y.f1 y.f2) r ∧ Ev (fun k => impl_IsUniform.l0 k y.f2 (y.f2.length : Int) i y.f0 y.f1 y.f2) r := by
        intro d
        induction d with
        | zero =>
          intro i hi
          refine ⟨true, ⟨1, fun k hk => ?_⟩, ⟨1, fun k hk => ?_⟩⟩ <;> obtain ⟨k, rfl⟩ := succ_of (show 0 < k by omega)
          · simp (disch := omega) only [spec_IsUniform.l0, if_neg]
          · simp (disch := omega) only [impl_IsUniform.l0, if_neg]
        | succ d ihd =>
          intro i hi
          have hlt : i < y.f2.length := by omega
          obtain ⟨r, ⟨K5, e5⟩, ⟨K6, e6⟩⟩ := ihd (i + 1) (by omega)
          obtain ⟨⟨K3, e3⟩, -⟩ := eqT_f y.f2[0] (h4 _ (List.getElem_mem hpos)) y.f2[i]
          obtain ⟨-, ⟨K4, e4⟩⟩ := eqT_f y.f2[i] (h4 _ (List.getElem_mem hlt)) y.f2[0]
          have z0 := rdIT y.f2 0 hpos
          simp only [Int.natCast_zero] at z0
          have ec : decide (y.f2[i] = y.f2[0]) = decide (y.f2[0] = y.f2[i]) := decide_eq_decide.mpr eq_comm
          by_cases h : y.f2[0] = y.f2[i]
          · refine ⟨r, ⟨K3 + K5 + 1, fun k hk => ?_⟩, ⟨K4 + K6 + 1, fun k hk => ?_⟩⟩ <;> obtain ⟨k, rfl⟩ := succ_of (show 0 < k by omega)
            · have e3' := e3 k (by omega)
              simp (disch := omega) only [spec_IsUniform.l0, z0, rdIT, if_pos, e3', Option.bind_some, w64, cast1, e5]
              simp [h]
            · have e4' := e4 k (by omega)
              simp (disch := omega) only [impl_IsUniform.l0, z0, rdIT, if_pos, e4', Option.bind_some, w64, cast1, e6]
              simp [h]
          · refine ⟨false, ⟨K3 + K5 + 1, fun k hk => ?_⟩, ⟨K4 + K6 + 1, fun k hk => ?_⟩⟩ <;> obtain ⟨k, rfl⟩ := succ_of (show 0 < k by omega)
            · have e3' := e3 k (by omega)
              simp (disch := omega) only [spec_IsUniform.l0, z0, rdIT, if_pos, e3', Option.bind_some]
              simp [h]
            · have e4' := e4 k (by omega)
              simp (disch := omega) only [impl_IsUniform.l0, z0, rdIT, if_pos, e4', Option.bind_some, ec]
              simp [h]
      obtain ⟨r, ⟨K3, e3⟩, ⟨K4, e4⟩⟩ := loop (y.f2.length - 1) 1 (by omega)
      obtain ⟨-, ⟨K5, e5⟩⟩ := eqT_f y.f2[0] (h4 _ (List.getElem_mem hpos)) y.f2[0]
      have z0 := rdIT y.f2 0 hpos
      simp only [Int.natCast_zero, Int.natCast_one] at z0 e3 e4
      have w1 : wrap64 (0 + 1) = 1 := by unfold wrap64; omega
      have hp : (0 : Int) < (y.f2.length : Int) := by omega
      refine ⟨r, ⟨K1 + K3 + 2, fun k hk => ?_⟩, ⟨K2 + K4 + K5 + 3, fun k hk => ?_⟩⟩
      · obtain ⟨k, rfl⟩ := succ_of (show 0 < k by omega)
        have e1' := e1 (k + 1) (by omega)
        have e3' := e3 k (by omega)
        simp only [spec_IsUniform.f, spec_IsUniform.j0, e1', Option.bind_some, a1, a2, if_true, Bool.false_eq_true, if_false]
        exact e3'
      · obtain ⟨k, rfl⟩ : ∃ m, k = m + 2 := ⟨k - 2, by omega⟩
        have e2' := e2 (k + 2) (by omega)
        have e4' := e4 k (by omega)
        have e5' := e5 k (by omega)
        simp only [impl_IsUniform.f, impl_IsUniform.j0, impl_IsUniform.l0, e2', Option.bind_some, a1, a2, if_true, Bool.false_eq_true, if_false, if_pos hp, Int.le_refl, z0, e5', decide_true, w1]
        exact e4'
    · refine ⟨false, ⟨K1 + 1, fun k hk => ?_⟩, ⟨K2 + 1, fun k hk => ?_⟩⟩ <;> obtain ⟨k, rfl⟩ := succ_of (show 0 < k by omega)
      · have e1' := e1 (k + 1) (by omega)
        simp only [spec_IsUniform.f, spec_IsUniform.j0, e1', Option.bind_some]
        cases h1 : isT y <;> cases h2 : (y.f0 != 3) <;> simp_all
      · have e2' := e2 (k + 1) (by omega)
        simp only [impl_IsUniform.f, impl_IsUniform.j0, e2', Option.bind_some]
        cases h1 : isT y <;> cases h2 : (y.f0 != 3) <;> simp_all

theorem and255 (n : Int) : Go.bits .and .i64 n 255 = n % 256 := by
  have h255 : (BitVec.ofInt 64 255).toNat = 2 ^ 8 - 1 := by decide
  have key : (BitVec.ofInt 64 n &&& BitVec.ofInt 64 255).toNat = (n % ((2 ^ 64 : Nat) : Int)).toNat % 2 ^ 8 := by
    rw [BitVec.toNat_and, BitVec.toNat_ofInt, h255, Nat.and_two_pow_sub_one_eq_mod]
  show IntKind.i64.wrap ((BitVec.ofInt 64 n &&& BitVec.ofInt 64 255).toNat : Nat) = n % 256
  rw [key, IntKind.wrap_i64]
  omega

theorem new_loop (l : List Int) (hl : l.length * 1 ≤ 140737488351232) (d : Nat) : ∀ (h i : Int), 0 ≤ i → i + d = l.length → ∃ z, ∀ k, d < k → spec_l1New.l0 k l h i = some (l, 0, z) := by
  induction d with
  | zero =>
    intro h i h0 h1
    refine ⟨h, fun k hk => ?_⟩
    obtain ⟨k, rfl⟩ : ∃ m, k = m + 1 := ⟨k - 1, by omega⟩
    simp only [spec_l1New.l0]
    rw [if_neg (by omega)]
  | succ d ih =>
    intro h i h0 h1
    have e : wrap64 (i + 1) = i + 1 := by unfold wrap64; omega
    by_cases h4 : i < 4000
    · obtain ⟨z, hz⟩ := ih (Go.bits .and .i64 (wrap64 ((wrap64 ((wrap64 (h * 131)) + (wrap64 (rd l i)))) + 7)) 1073741823) (i + 1) (by omega) (by omega)
      refine ⟨z, fun k hk => ?_⟩
      obtain ⟨k, rfl⟩ : ∃ m, k = m + 1 := ⟨k - 1, by omega⟩
      simp only [spec_l1New.l0]
      rw [if_pos (by omega), if_pos h4, if_pos h0, e]
      exact hz k (by omega)
    · refine ⟨h, fun k hk => ?_⟩
      obtain ⟨k, rfl⟩ : ∃ m, k = m + 1 := ⟨k - 1, by omega⟩
      simp only [spec_l1New.l0]
      rw [if_pos (by omega), if_neg h4]

theorem new_f (l : List Int) (hl : l.length * 1 ≤ 140737488351232) : ∃ z, ∀ k, l.length < k → spec_l1New.f k l = some (l, 0, z) := by
  obtain ⟨z, hz⟩ := new_loop l hl l.length (wrap64 (26583 + (l.length : Int))) 0 (by omega) (by omega)
  exact ⟨z, fun k hk => hz k hk⟩

theorem byte_f (l : List Int) (i h : Int) (h0 : 0 ≤ i) (hi : i ≤ l.length) (hl : l.length * 1 ≤ 140737488351232) : ∃ x j z, spec_l1Byte.f l i h = some (x, j, z) ∧ 0 ≤ x ∧ x ≤ 255 ∧ 0 ≤ j ∧ j ≤ l.length := by
  simp only [spec_l1Byte.f, and255]
  by_cases h4 : i < (l.length : Int)
  · have e : wrap64 (i + 1) = i + 1 := by unfold wrap64; omega
    rw [if_pos h4, if_pos h0, e]
    exact ⟨_, _, _, rfl, by omega, by omega, by omega, by omega⟩
  · rw [if_neg h4]
    exact ⟨_, _, _, rfl, by omega, by omega, h0, hi⟩

theorem below_f (l : List Int) (i h n : Int) (h0 : 0 ≤ i) (hi : i ≤ l.length) (hl : l.length * 1 ≤ 140737488351232) (hn : 0 < n) (hn' : n ≤ 256) : ∃ x j z, spec_l1Below.f l i h n = some (x, j, z) ∧ 0 ≤ x ∧ x < n ∧ 0 ≤ j ∧ j ≤ l.length := by
  obtain ⟨x, j, z, e, x0, x1, h1, h2⟩ := byte_f l i h h0 hi hl
  refine ⟨Int.tmod x n, j, z, ?_, ?_, ?_, h1, h2⟩
  · simp only [spec_l1Below.f]
    rw [if_neg (by omega), if_pos (by omega), e]
    simp only [Option.bind_some]
    rw [if_neg (by omega)]
  · rw [Int.tmod_eq_emod_of_nonneg x0]; exact Int.emod_nonneg _ (by omega)
  · rw [Int.tmod_eq_emod_of_nonneg x0]; exact Int.emod_lt_of_pos _ hn

theorem below_big (l : List Int) (i h n : Int) (h0 : 0 ≤ i) (hi : i ≤ l.length) (hl : l.length * 1 ≤ 140737488351232) (hn : 256 < n) : ∃ x j z, spec_l1Below.f l i h n = some (x, j, z) ∧ 0 ≤ j ∧ j ≤ l.length := by
  obtain ⟨x, j, z, e, _, _, h1, h2⟩ := byte_f l i h h0 hi hl
  obtain ⟨x', j', z', e', _, _, h1', h2'⟩ := byte_f l j z h1 h2 hl
  obtain ⟨x2, j2, z2, e2, _, _, h12, h22⟩ := byte_f l j' z' h1' h2' hl
  obtain ⟨x3, j3, z3, e3, _, _, h13, h23⟩ := byte_f l j2 z2 h12 h22 hl
  refine ⟨Int.tmod (wrap64 ((wrap64 ((wrap64 ((wrap64 (x * 16777216)) + (wrap64 (x' * 65536)))) + (wrap64 (x2 * 256)))) + x3)) n, j3, z3, ?_, h13, h23⟩
  simp only [spec_l1Below.f]
  rw [if_neg (by omega), if_neg (by omega), e]
  simp only [Option.bind_some]
  rw [e']
  simp only [Option.bind_some]
  rw [e2]
  simp only [Option.bind_some]
  rw [e3]
  simp only [Option.bind_some]
  rw [if_neg (by omega)]

theorem pick_f (l : List Int) (i h : Int) (h0 : 0 ≤ i) (hi : i ≤ l.length) (hl : l.length * 1 ≤ 140737488351232) (xs : List ByteArray) (hx : xs ≠ []) (hx' : xs.length ≤ 256) : ∃ s j z, spec_l1Pick.f l i h xs = some (s, j, z) ∧ s ∈ xs ∧ 0 ≤ j ∧ j ≤ l.length := by
  have hp : 0 < xs.length := List.length_pos_iff.mpr hx
  obtain ⟨x, j, z, e, x0, x1, h1, h2⟩ := below_f l i h xs.length h0 hi hl (by omega) (by omega)
  obtain ⟨n, rfl⟩ := Int.eq_ofNat_of_zero_le x0
  have hn : n < xs.length := by omega
  refine ⟨xs[n], j, z, ?_, List.getElem_mem hn, h1, h2⟩
  simp only [spec_l1Pick.f, e, Option.bind_some]
  rw [if_pos (by omega), if_pos (by omega)]
  simp [rdOf, hn]

theorem pickInt_f (l : List Int) (i h : Int) (h0 : 0 ≤ i) (hi : i ≤ l.length) (hl : l.length * 1 ≤ 140737488351232) (xs : List Int) (hx : xs ≠ []) (hx' : xs.length ≤ 256) : ∃ s j z, spec_l1PickInt.f l i h xs = some (s, j, z) ∧ s ∈ xs ∧ 0 ≤ j ∧ j ≤ l.length := by
  have hp : 0 < xs.length := List.length_pos_iff.mpr hx
  obtain ⟨x, j, z, e, x0, x1, h1, h2⟩ := below_f l i h xs.length h0 hi hl (by omega) (by omega)
  obtain ⟨n, rfl⟩ := Int.eq_ofNat_of_zero_le x0
  have hn : n < xs.length := by omega
  refine ⟨xs[n], j, z, ?_, List.getElem_mem hn, h1, h2⟩
  simp only [spec_l1PickInt.f, e, Option.bind_some]
  rw [if_pos (by omega), if_pos (by omega)]
  simp [rd, hn]

/-- A drawn type: within bounds, and not greater than so many. -/
def DrT (n : Nat) (y : S30) : Prop := SmT y ∧ ndT y ≤ n ∧ y.f1.length ≤ 10

theorem once_f (l : List Int) (i h n : Int) (h0 : 0 ≤ i) (hi : i ≤ l.length) (hl : l.length * 1 ≤ 140737488351232) (hn : 0 < n) (hn' : n ≤ 256) : ∃ b j z, spec_l1Once.f l i h n = some (b, j, z) ∧ 0 ≤ j ∧ j ≤ l.length := by
  obtain ⟨x, j, z, e, _, _, j0, j1⟩ := below_f l i h n h0 hi hl hn hn'
  exact ⟨x == 0, j, z, by simp only [spec_l1Once.f, e, Option.bind_some], j0, j1⟩

theorem etaT (y : S30) : (⟨y.f0, y.f1, y.f2⟩ : S30) = y := by cases y; rfl

theorem SmT_f (y : S30) (sm : SmT y) : (-9223372036854775808 ≤ y.f0 ∧ y.f0 ≤ 9223372036854775807) ∧ (y.f1.length ≤ 1048576 ∧ ∀ s ∈ y.f1, s.size ≤ 1048576) ∧ y.f2.length ≤ 1048576 ∧ ∀ z ∈ y.f2, SmT z := by
  cases sm with
  | mk _ h0 h1 h2 h3 => exact ⟨h0, h1, h2, h3⟩

theorem ndsT_append (a : List S30) (y : S30) : ndsT (a ++ [y]) = ndsT a + ndT y := by
  induction a with
  | nil => simp [ndsT]
  | cons x q ih => simp only [List.cons_append, ndsT, ih]; omega

/-- The reference's copy. -/
theorem copyS_f (y : S30) (sm : SmT y) : Ev (fun k => spec_l3Copy.f k y.f0 y.f1 y.f2) (y.f0, y.f1, y.f2) := by
  induction sm with
  | mk y h0 h1 h2 h3 ih =>
    have loop : ∀ d i, i + d = y.f2.length → Ev (fun k => spec_l3Copy.l0 k i y.f0 y.f1 y.f2 y.f0 y.f1 (y.f2.take i)) (y.f0, y.f1, y.f2) := by
      intro d
      induction d with
      | zero =>
        intro i hi
        refine ⟨1, fun k hk => ?_⟩
        obtain ⟨k, rfl⟩ := succ_of (show 0 < k by omega)
        simp (disch := omega) only [spec_l3Copy.l0, if_neg]
        rw [List.take_of_length_le (by omega)]
      | succ d ihd =>
        intro i hi
        have hlt : i < y.f2.length := by omega
        obtain ⟨K1, e1⟩ := ih y.f2[i] (List.getElem_mem hlt)
        obtain ⟨K2, e2⟩ := ihd (i + 1) (by omega)
        refine ⟨K1 + K2 + 1, fun k hk => ?_⟩
        obtain ⟨k, rfl⟩ := succ_of (show 0 < k by omega)
        have el : (y.f2.take i).length < 2513169434916 := by rw [List.length_take]; omega
        have et : y.f2.take i ++ [y.f2[i]] = y.f2.take (i + 1) := by rw [List.take_succ_eq_append_getElem hlt]
        simp (disch := omega) only [spec_l3Copy.l0, rdIT, if_pos, e1, Option.bind_some, w64, cast1, if_pos el, etaT, et]
        exact e2 k (by omega)
    obtain ⟨K, e⟩ := loop y.f2.length 0 (by omega)
    refine ⟨K + 1, fun k hk => ?_⟩
    obtain ⟨k, rfl⟩ := succ_of (show 0 < k by omega)
    simp only [spec_l3Copy.f, Option.bind_some, List.nil_append, List.length_nil]
    rw [if_pos (by omega)]
    exact e k (by omega)

/-- The program's copy. -/
theorem copyI_f (y : S30) (sm : SmT y) : Ev (fun k => impl_cloneType.f k y.f0 y.f1 y.f2) (y.f0, y.f1, y.f2) := by
  induction sm with
  | mk y h0 h1 h2 h3 ih =>
    have loop : ∀ d i, i + d = y.f2.length → Ev (fun k => impl_cloneType.l0 k y.f2 y.f2.length i y.f0 y.f1 (y.f2.take i)) (y.f0, y.f1, y.f2) := by
      intro d
      induction d with
      | zero =>
        intro i hi
        refine ⟨1, fun k hk => ?_⟩
        obtain ⟨k, rfl⟩ := succ_of (show 0 < k by omega)
        simp (disch := omega) only [impl_cloneType.l0, if_neg]
        rw [List.take_of_length_le (by omega)]
      | succ d ihd =>
        intro i hi
        have hlt : i < y.f2.length := by omega
        obtain ⟨K1, e1⟩ := ih y.f2[i] (List.getElem_mem hlt)
        obtain ⟨K2, e2⟩ := ihd (i + 1) (by omega)
        refine ⟨K1 + K2 + 1, fun k hk => ?_⟩
        obtain ⟨k, rfl⟩ := succ_of (show 0 < k by omega)
        have el : (y.f2.take i).length < 2513169434916 := by rw [List.length_take]; omega
        have et : y.f2.take i ++ [y.f2[i]] = y.f2.take (i + 1) := by rw [List.take_succ_eq_append_getElem hlt]
        simp (disch := omega) only [impl_cloneType.l0, rdIT, if_pos, e1, Option.bind_some, w64, cast1, if_pos el, etaT, et]
        exact e2 k (by omega)
    obtain ⟨K, e⟩ := loop y.f2.length 0 (by omega)
    refine ⟨K + 1, fun k hk => ?_⟩
    obtain ⟨k, rfl⟩ := succ_of (show 0 < k by omega)
    have ec : impl_cloneStrings.f y.f1 = some y.f1 := by
      simp only [impl_cloneStrings.f, List.nil_append, List.length_nil]
      rw [if_pos (by omega)]
    simp only [impl_cloneType.f, ec, Option.bind_some]
    exact e k (by omega)

theorem sm_leaf (q : Int) (h0 : 0 ≤ q) (h1 : q ≤ 100) : DrT 1 (⟨q, [], []⟩ : S30) :=
  ⟨.mk _ ⟨by show _ ≤ q; omega, by show q ≤ _; omega⟩ ⟨by simp, by simp⟩ (by simp) (by simp), by simp [ndT, ndsT], by simp⟩

/-- A list's type. -/
theorem list3_f (y : S30) (n : Nat) (d : DrT n y) : Ev (fun k => spec_l3List.f k y.f0 y.f1 y.f2) (5, [], [y]) ∧ DrT (n + 1) (⟨5, [], [y]⟩ : S30) := by
  obtain ⟨K, e⟩ := copyS_f y d.1
  refine ⟨⟨K, fun k hk => ?_⟩, .mk _ ⟨by show (_ : Int) ≤ 5; omega, by show (5 : Int) ≤ _; omega⟩ ⟨by simp, by simp⟩ (by simp) (by intro z hz; rw [List.mem_singleton.mp hz]; exact d.1), ?_, by simp⟩
  · simp only [spec_l3List.f, e k hk, Option.bind_some, etaT]
  · simp only [ndT, ndsT]; have := d.2.1; omega

/-- A type of two labels. -/
theorem two3_f (q : Int) (q0 : 0 ≤ q) (q1 : q ≤ 100) (s t : ByteArray) (hs : s.size ≤ 1048576) (ht : t.size ≤ 1048576) (x y : S30) (n m : Nat) (dx : DrT n x) (dy : DrT m y) :
    Ev (fun k => spec_l3Labeled.f k q [s, t] [x, y]) (q, [s, t], [x, y]) ∧ DrT (n + m + 1) (⟨q, [s, t], [x, y]⟩ : S30) := by
  obtain ⟨K1, e1⟩ := copyS_f x dx.1
  obtain ⟨K2, e2⟩ := copyS_f y dy.1
  have r0 : rd_T30 [x, y] 0 = x := by simp [rd_T30]
  have r1 : rd_T30 [x, y] 1 = y := by simp [rd_T30]
  have w1 : wrap64 1 = 1 := w64 (by omega) (by omega)
  have w2 : wrap64 2 = 2 := w64 (by omega) (by omega)
  refine ⟨⟨K1 + K2 + 4, fun k hk => ?_⟩, .mk _ ⟨by show _ ≤ q; omega, by show q ≤ _; omega⟩ ⟨by simp, ?_⟩ (by simp) ?_, ?_, by simp⟩
  · obtain ⟨k, rfl⟩ : ∃ m, k = m + 3 := ⟨k - 3, by omega⟩
    have e1' : spec_l3Copy.f (k + 2) x.f0 x.f1 x.f2 = some _ := e1 (k + 2) (by omega)
    have e2' : spec_l3Copy.f (k + 1) y.f0 y.f1 y.f2 = some _ := e2 (k + 1) (by omega)
    simp [spec_l3Labeled.f, spec_l3Labeled.l0, r0, r1, w1, w2, e1', e2', etaT]
  · intro z hz
    simp only [List.mem_cons, List.not_mem_nil, or_false] at hz
    rcases hz with rfl | rfl
    · exact hs
    · exact ht
  · intro z hz
    simp only [List.mem_cons, List.not_mem_nil, or_false] at hz
    rcases hz with rfl | rfl
    · exact dx.1
    · exact dy.1
  · simp only [ndT, ndsT]; have := dx.2.1; have := dy.2.1; omega

theorem draw_f (l : List Int) (hl : l.length * 1 ≤ 140737488351232) (d : Nat) (hd : d ≤ 10) : ∀ (c h : Int), 0 ≤ c → c ≤ l.length →
    ∃ (y : S30) (j z : Int), Ev (fun k => spec_l3Draw.f k l c h (d + 1 : Nat)) (y.f0, y.f1, y.f2, j, z) ∧ DrT (3 ^ d) y ∧ 0 ≤ j ∧ j ≤ l.length := by
  have leaf : ∀ (a c h : Int) (n : Nat), 0 < n → 0 ≤ c → c ≤ l.length → ∃ (y : S30) (j z : Int), (∀ k, 1 ≤ k → spec_l3Draw.j0 k a true l c h = some (y.f0, y.f1, y.f2, j, z)) ∧ DrT n y ∧ 0 ≤ j ∧ j ≤ l.length := by
    intro a c h n hn h0 h1
    obtain ⟨q, j, z, e, hm, j0, j1⟩ := pickInt_f l c h h0 h1 hl [1, 2, 1] (by simp) (by simp)
    have hq : 0 ≤ q ∧ q ≤ 100 := by simp only [List.mem_cons, List.not_mem_nil, or_false] at hm; omega
    obtain ⟨s1, s2, s3⟩ := sm_leaf q hq.1 hq.2
    refine ⟨⟨q, [], []⟩, j, z, fun k hk => ?_, ⟨s1, by omega, s3⟩, j0, j1⟩
    obtain ⟨k, rfl⟩ := succ_of (show 0 < k by omega)
    simp only [spec_l3Draw.j0, if_true, e, Option.bind_some]
  induction d with
  | zero =>
    intro c h h0 h1
    obtain ⟨y, j, z, e, dr, j0, j1⟩ := leaf 1 c h 1 (by omega) h0 h1
    refine ⟨y, j, z, ⟨2, fun k hk => ?_⟩, dr, j0, j1⟩
    obtain ⟨k, rfl⟩ : ∃ m, k = m + 2 := ⟨k - 2, by omega⟩
    simp only [spec_l3Draw.f]
    rw [if_pos (by omega)]
    exact e (k + 1) (by omega)
  | succ d ih =>
    intro c h h0 h1
    have p0 : 0 < 3 ^ d := Nat.pow_pos (by omega)
    have p1 : 3 ^ (d + 1) = 3 ^ d * 3 := Nat.pow_succ 3 d
    have ew : wrap64 (((d + 1 + 1 : Nat) : Int) - 1) = ((d + 1 : Nat) : Int) := by rw [w64 (by omega) (by omega)]; omega
    have up : ∀ (n : Nat) (y : S30), n ≤ 3 ^ (d + 1) → DrT n y → DrT (3 ^ (d + 1)) y := fun n y hn dr => ⟨dr.1, by have := dr.2.1; omega, dr.2.2⟩
    have main : ∀ c h : Int, 0 ≤ c → c ≤ l.length → ∃ (y : S30) (j z : Int), Ev (fun k => spec_l3Draw.j0 k ((d + 1 + 1 : Nat) : Int) false l c h) (y.f0, y.f1, y.f2, j, z) ∧ DrT (3 ^ (d + 1)) y ∧ 0 ≤ j ∧ j ≤ l.length := by
      intro c h h0 h1
      obtain ⟨b, j, z, e, b0, b1, j0, j1⟩ := below_f l c h 4 h0 h1 hl (by omega) (by omega)
      obtain ⟨x, jx, zx, ⟨K1, ex⟩, dx, jx0, jx1⟩ := ih (by omega) j z j0 j1
      obtain ⟨y, jy, zy, ⟨K2, ey⟩, dy, jy0, jy1⟩ := ih (by omega) jx zx jx0 jx1
      by_cases c0 : b = 0
      · obtain ⟨⟨K3, e3⟩, d3⟩ := list3_f x _ dx
        refine ⟨⟨5, [], [x]⟩, jx, zx, ⟨K1 + K3 + 1, fun k hk => ?_⟩, up _ _ (by omega) d3, jx0, jx1⟩
        obtain ⟨k, rfl⟩ := succ_of (show 0 < k by omega)
        have ex' : spec_l3Draw.f k l j z ((d + 1 : Nat) : Int) = some _ := ex k (by omega)
        have e3' : spec_l3List.f k x.f0 x.f1 x.f2 = some _ := e3 k (by omega)
        simp only [spec_l3Draw.j0, Bool.false_eq_true, if_false, e, Option.bind_some, if_pos c0, ew, ex', e3']
      · by_cases c1 : b = 1
        · obtain ⟨⟨K3, e3⟩, d3⟩ := two3_f 4 (by omega) (by omega) ⟨#[112]⟩ ⟨#[113]⟩ (by decide) (by decide) x y _ _ dx dy
          refine ⟨⟨4, [⟨#[112]⟩, ⟨#[113]⟩], [x, y]⟩, jy, zy, ⟨K1 + K2 + K3 + 1, fun k hk => ?_⟩, up _ _ (by omega) d3, jy0, jy1⟩
          obtain ⟨k, rfl⟩ := succ_of (show 0 < k by omega)
          have ex' : spec_l3Draw.f k l j z ((d + 1 : Nat) : Int) = some _ := ex k (by omega)
          have ey' : spec_l3Draw.f k l jx zx ((d + 1 : Nat) : Int) = some _ := ey k (by omega)
          have e3' : spec_l3Labeled.f k 4 [⟨#[112]⟩, ⟨#[113]⟩] [x, y] = some _ := e3 k (by omega)
          simp only [spec_l3Draw.j0, Bool.false_eq_true, if_false, e, Option.bind_some, if_neg c0, if_pos c1, ew, ex', ey', etaT, e3']
        · by_cases c2 : b = 2
          · obtain ⟨⟨K3, e3⟩, d3⟩ := two3_f 3 (by omega) (by omega) ⟨#[97]⟩ ⟨#[98]⟩ (by decide) (by decide) x x _ _ dx dx
            refine ⟨⟨3, [⟨#[97]⟩, ⟨#[98]⟩], [x, x]⟩, jx, zx, ⟨K1 + K3 + 1, fun k hk => ?_⟩, up _ _ (by omega) d3, jx0, jx1⟩
            obtain ⟨k, rfl⟩ := succ_of (show 0 < k by omega)
            have ex' : spec_l3Draw.f k l j z ((d + 1 : Nat) : Int) = some _ := ex k (by omega)
            have e3' : spec_l3Labeled.f k 3 [⟨#[97]⟩, ⟨#[98]⟩] [x, x] = some _ := e3 k (by omega)
            simp only [spec_l3Draw.j0, Bool.false_eq_true, if_false, e, Option.bind_some, if_neg c0, if_neg c1, if_pos c2, ew, ex', etaT, e3']
          · obtain ⟨⟨K3, e3⟩, d3⟩ := two3_f 3 (by omega) (by omega) ⟨#[97]⟩ ⟨#[98]⟩ (by decide) (by decide) x y _ _ dx dy
            refine ⟨⟨3, [⟨#[97]⟩, ⟨#[98]⟩], [x, y]⟩, jy, zy, ⟨K1 + K2 + K3 + 1, fun k hk => ?_⟩, up _ _ (by omega) d3, jy0, jy1⟩
            obtain ⟨k, rfl⟩ := succ_of (show 0 < k by omega)
            have ex' : spec_l3Draw.f k l j z ((d + 1 : Nat) : Int) = some _ := ex k (by omega)
            have ey' : spec_l3Draw.f k l jx zx ((d + 1 : Nat) : Int) = some _ := ey k (by omega)
            have e3' : spec_l3Labeled.f k 3 [⟨#[97]⟩, ⟨#[98]⟩] [x, y] = some _ := e3 k (by omega)
            simp only [spec_l3Draw.j0, Bool.false_eq_true, if_false, e, Option.bind_some, if_neg c0, if_neg c1, if_neg c2, ew, ex', ey', etaT, e3']
    obtain ⟨b, j, z, e, j0, j1⟩ := once_f l c h 4 h0 h1 hl (by omega) (by omega)
    cases b
    · obtain ⟨y, j', z', ⟨K, e'⟩, dr, j0', j1'⟩ := main j z j0 j1
      refine ⟨y, j', z', ⟨K + 2, fun k hk => ?_⟩, dr, j0', j1'⟩
      obtain ⟨k, rfl⟩ := succ_of (show 0 < k by omega)
      simp only [spec_l3Draw.f]
      rw [if_neg (by omega), e]
      exact e' k (by omega)
    · obtain ⟨y, j', z', e', dr, j0', j1'⟩ := leaf ((d + 1 + 1 : Nat) : Int) j z (3 ^ (d + 1)) (by omega) j0 j1
      refine ⟨y, j', z', ⟨2, fun k hk => ?_⟩, dr, j0', j1'⟩
      obtain ⟨k, rfl⟩ := succ_of (show 0 < k by omega)
      simp only [spec_l3Draw.f]
      rw [if_neg (by omega), e]
      exact e' k (by omega)

theorem bentT_f (l : List Int) (hl : l.length * 1 ≤ 140737488351232) (c h : Int) (h0 : 0 ≤ c) (h1 : c ≤ l.length) :
    ∃ (y : S30) (j z : Int), Ev (fun k => spec_l3Bent.f k l c h) (y.f0, y.f1, y.f2, j, z) ∧ SmT y ∧ ndT y ≤ 100 ∧ 0 ≤ j ∧ j ≤ l.length := by
  obtain ⟨y, j2, z2, ⟨K, e2⟩, dr, j20, j21⟩ := draw_f l hl 3 (by omega) c h h0 h1
  obtain ⟨g0, g1, g2, g3⟩ := SmT_f y dr.1
  have gn := ndT_eq y
  have gd : ndT y ≤ 27 := dr.2.1
  have gf := dr.2.2
  have gl := ndsT_len y.f2
  obtain ⟨b, j3, z3, e3, b0, b1, j30, j31⟩ := below_f l j2 z2 10 j20 j21 hl (by omega) (by omega)
  have st : ∀ k, K ≤ k → ∀ r, (if b = 0 then ((spec_l1Below.f l j3 z3 7).bind fun bt => some (bt.1, y.f1, y.f2, bt.2.1, bt.2.2)) else (if b = 1 then ((spec_l1Pick.f l j3 z3 (([(⟨#[97]⟩ : ByteArray), (⟨#[122]⟩ : ByteArray), (⟨#[90]⟩ : ByteArray)] : List ByteArray))).bind fun bt => (if y.f1.length < 8796093022208 then some (y.f0, y.f1 ++ [bt.1], y.f2, bt.2.1, bt.2.2) else none)) else (if b = 2 then (if y.f2.length < 2513169434916 then some (y.f0, y.f1, y.f2 ++ [(⟨1, [], []⟩ : S30)], j3, z3) else none) else (if b = 3 then ((spec_l1Below.f l j3 z3 6).bind fun bt => (spec_l3Bent.l0 k (wrap64 (1 + bt.1)) 0 l bt.2.1 bt.2.2 y.f0 y.f1 y.f2)) else some (y.f0, y.f1, y.f2, j3, z3))))) = some r → spec_l3Bent.f k l c h = some r := by
    intro k hk r hr
    have e2' : spec_l3Draw.f k l c h 4 = some _ := e2 k hk
    simp only [spec_l3Bent.f, e2', Option.bind_some, e3, spec_l3Int.f]
    exact hr
  by_cases c0 : b = 0
  · obtain ⟨q, j4, z4, e4, q0, q1, j40, j41⟩ := below_f l j3 z3 7 j30 j31 hl (by omega) (by omega)
    refine ⟨⟨q, y.f1, y.f2⟩, j4, z4, ⟨K, fun k hk => st k hk _ ?_⟩, .mk _ ⟨by show _ ≤ q; omega, by show q ≤ _; omega⟩ g1 g2 g3, by show ndsT y.f2 + 1 ≤ _; omega, j40, j41⟩
    rw [if_pos c0, e4]; rfl
  · by_cases c1 : b = 1
    · obtain ⟨q, j4, z4, e4, hm, j40, j41⟩ := pick_f l j3 z3 j30 j31 hl [(⟨#[97]⟩ : ByteArray), (⟨#[122]⟩ : ByteArray), (⟨#[90]⟩ : ByteArray)] (by simp) (by simp)
      have hq : q.size ≤ 1048576 := by
        simp only [List.mem_cons, List.not_mem_nil, or_false] at hm
        rcases hm with rfl | rfl | rfl <;> decide
      refine ⟨⟨y.f0, y.f1 ++ [q], y.f2⟩, j4, z4, ⟨K, fun k hk => st k hk _ ?_⟩, .mk _ g0 ⟨by show (y.f1 ++ [q]).length ≤ _; rw [List.length_append]; simp; omega, ?_⟩ g2 g3, by show ndsT y.f2 + 1 ≤ _; omega, j40, j41⟩
      · rw [if_neg c0, if_pos c1, e4]
        simp only [Option.bind_some]
        rw [if_pos (by omega)]
      · intro s hs
        rcases List.mem_append.mp hs with hs | hs
        · exact g1.2 s hs
        · rw [List.mem_singleton.mp hs]; exact hq
    · by_cases c2 : b = 2
      · refine ⟨⟨y.f0, y.f1, y.f2 ++ [⟨1, [], []⟩]⟩, j3, z3, ⟨K, fun k hk => st k hk _ ?_⟩, .mk _ g0 g1 (by show (y.f2 ++ _).length ≤ _; rw [List.length_append]; simp; omega) ?_, ?_, j30, j31⟩
        · rw [if_neg c0, if_neg c1, if_pos c2, if_pos (by omega)]
        · intro q hq
          rcases List.mem_append.mp hq with hq | hq
          · exact g3 q hq
          · rw [List.mem_singleton.mp hq]; exact (sm_leaf 1 (by omega) (by omega)).1
        · show ndsT (y.f2 ++ _) + 1 ≤ _
          rw [ndsT_append]; simp only [ndT, ndsT]; omega
      · by_cases c3 : b = 3
        · obtain ⟨n, j4, z4, e4, n0, n1, j40, j41⟩ := below_f l j3 z3 6 j30 j31 hl (by omega) (by omega)
          obtain ⟨m, hm⟩ : ∃ m : Nat, wrap64 (1 + n) = m := ⟨(1 + n).toNat, by rw [w64 (by omega) (by omega)]; omega⟩
          have hm2 : m ≤ 6 := by have := w64 (n := 1 + n) (by omega) (by omega); omega
          have loop : ∀ d i (y : S30), i + d = m → DrT (27 + i) y → ∃ y' : S30, Ev (fun k => spec_l3Bent.l0 k m i l j4 z4 y.f0 y.f1 y.f2) (y'.f0, y'.f1, y'.f2, j4, z4) ∧ SmT y' ∧ ndT y' ≤ 100 := by
            intro d
            induction d with
            | zero =>
              intro i y hi dr
              refine ⟨y, ⟨1, fun k hk => ?_⟩, dr.1, by have := dr.2.1; omega⟩
              obtain ⟨k, rfl⟩ := succ_of (show 0 < k by omega)
              simp (disch := omega) only [spec_l3Bent.l0, if_neg]
            | succ d ihd =>
              intro i y hi dr
              obtain ⟨⟨K1, e1⟩, d1⟩ := list3_f y _ dr
              obtain ⟨y', ⟨K2, e'⟩, d'⟩ := ihd (i + 1) ⟨5, [], [y]⟩ (by omega) d1
              refine ⟨y', ⟨K1 + K2 + 1, fun k hk => ?_⟩, d'⟩
              obtain ⟨k, rfl⟩ := succ_of (show 0 < k by omega)
              have e1' : spec_l3List.f k y.f0 y.f1 y.f2 = some _ := e1 k (by omega)
              simp (disch := omega) only [spec_l3Bent.l0, if_pos, e1', Option.bind_some, w64, cast1]
              exact e' k (by omega)
          obtain ⟨y', ⟨K2, e'⟩, d1, d2⟩ := loop m 0 y (by omega) ⟨dr.1, by omega, gf⟩
          refine ⟨y', j4, z4, ⟨K + K2, fun k hk => st k (by omega) _ ?_⟩, d1, d2, j40, j41⟩
          rw [if_neg c0, if_neg c1, if_neg c2, if_pos c3, e4]
          simp only [Option.bind_some, hm]
          exact e' k (by omega)
        · refine ⟨y, j3, z3, ⟨K, fun k hk => st k hk _ ?_⟩, dr.1, by omega, j30, j31⟩
          rw [if_neg c0, if_neg c1, if_neg c2, if_neg c3]

theorem dValid_f (l : List Int) (hl : l.length * 1 ≤ 140737488351232) : ∃ y : S30, Ev (fun k => spec_DrawIsValidType.f k l) (y.f0, y.f1, y.f2) ∧ SmT y ∧ ndT y ≤ 100 := by
  obtain ⟨z, hz⟩ := new_f l hl
  obtain ⟨y, j, h, ⟨K, e⟩, d1, d2, j0, j1⟩ := bentT_f l hl 0 z (by omega) (by omega)
  refine ⟨y, ⟨K + l.length + 1, fun k hk => ?_⟩, d1, d2⟩
  simp only [spec_DrawIsValidType.f, hz k (by omega), Option.bind_some, e k (by omega)]

theorem dEqual_f (l : List Int) (hl : l.length * 1 ≤ 140737488351232) : ∃ y q : S30, Ev (fun k => spec_DrawEqualType.f k l) (y.f0, y.f1, y.f2, q.f0, q.f1, q.f2) ∧ SmT y := by
  obtain ⟨z, hz⟩ := new_f l hl
  obtain ⟨y, j, h, ⟨K, e⟩, d1, d2, j0, j1⟩ := bentT_f l hl 0 z (by omega) (by omega)
  obtain ⟨b, j2, z2, e2, j20, j21⟩ := once_f l j h 2 j0 j1 hl (by omega) (by omega)
  cases b
  · obtain ⟨q, j', h', ⟨K2, e'⟩, q1, q2, _, _⟩ := bentT_f l hl j2 z2 j20 j21
    refine ⟨y, q, ⟨K + K2 + l.length + 1, fun k hk => ?_⟩, d1⟩
    simp only [spec_DrawEqualType.f, hz k (by omega), Option.bind_some, e k (by omega), e2, Bool.false_eq_true, if_false, e' k (by omega)]
  · obtain ⟨K2, e'⟩ := copyS_f y d1
    refine ⟨y, y, ⟨K + K2 + l.length + 1, fun k hk => ?_⟩, d1⟩
    simp only [spec_DrawEqualType.f, hz k (by omega), Option.bind_some, e k (by omega), e2, if_true, e' k (by omega)]

theorem dPart_f (l : List Int) (hl : l.length * 1 ≤ 140737488351232) : ∃ (y : S30) (s : ByteArray), Ev (fun k => spec_DrawPartType.f k l) (y.f0, y.f1, y.f2, s) ∧ SmT y ∧ ndT y ≤ 100 := by
  obtain ⟨z, hz⟩ := new_f l hl
  obtain ⟨y, j, h, ⟨K, e⟩, d1, d2, j0, j1⟩ := bentT_f l hl 0 z (by omega) (by omega)
  obtain ⟨s, j2, z2, e2, _, _, _⟩ := pick_f l j h j0 j1 hl [(⟨#[97]⟩ : ByteArray), (⟨#[98]⟩ : ByteArray), (⟨#[112]⟩ : ByteArray), (⟨#[122]⟩ : ByteArray)] (by simp) (by simp)
  refine ⟨y, s, ⟨K + l.length + 1, fun k hk => ?_⟩, d1, d2⟩
  simp only [spec_DrawPartType.f, hz k (by omega), Option.bind_some, e k (by omega), e2]

/-- The place of a text. -/
def idx (a : ByteArray) : List ByteArray → Nat → Int
  | [], _ => -1
  | x :: q, i => if x.toList = a.toList then (i : Int) else idx a q (i + 1)

theorem idx_loop (l : List ByteArray) (a : ByteArray) (hl : l.length ≤ 1048576) (d : Nat) : ∀ (i : Nat), i + d = l.length → ∀ k, d < k → spec_IndexOf.l0 k l a i = some (idx a (l.drop i) i) ∧ impl_IndexOf.l0 k a l l.length i = some (idx a (l.drop i) i) := by
  induction d with
  | zero =>
    intro i hi k hk
    obtain ⟨k, rfl⟩ := succ_of hk
    have e : l.drop i = [] := List.drop_eq_nil_of_le (by omega)
    simp (disch := omega) only [spec_IndexOf.l0, impl_IndexOf.l0, if_neg, e, idx, and_self]
  | succ d ih =>
    intro i hi k hk
    obtain ⟨k, rfl⟩ := succ_of hk
    rw [List.drop_eq_getElem_cons (show i < l.length by omega)]
    by_cases he : l[i].toList = a.toList
    · simp (disch := omega) only [spec_IndexOf.l0, impl_IndexOf.l0, if_pos, rd_at, if_pos he, idx, and_self]
    · simp (disch := omega) only [spec_IndexOf.l0, impl_IndexOf.l0, if_pos, rd_at, if_neg he, idx, w64, cast1]
      exact ih (i + 1) (by omega) k (by omega)

theorem idx_f (l : List ByteArray) (a : ByteArray) (hl : l.length ≤ 1048576) (k : Nat) (hk : l.length < k) : spec_IndexOf.f k l a = some (idx a l 0) ∧ impl_IndexOf.f k l a = some (idx a l 0) := idx_loop l a hl l.length 0 (by omega) k hk

theorem idx_lt (a : ByteArray) (l : List ByteArray) : ∀ i, idx a l i < i + l.length ∧ -1 ≤ idx a l i := by
  induction l with
  | nil => intro i; simp only [idx, List.length_nil]; omega
  | cons y q ih =>
    intro i
    simp only [idx, List.length_cons]
    split
    · omega
    · have := ih (i + 1); omega

/-- A valid type with labels is a record or a sum, with a part for each. -/
theorem valid_labels (y : S30) (h : isT y = true) (hp : 0 < y.f1.length) : (y.f0 = 3 ∨ y.f0 = 4) ∧ y.f1.length = y.f2.length := by
  unfold isT at h
  rw [fmT_eq] at h
  simp only [Bool.and_eq_true] at h
  have h5 := h.2.2.2
  unfold lfT at h5
  by_cases a : y.f0 = 1 ∨ y.f0 = 2
  · rw [if_pos a] at h5
    simp only [Bool.and_eq_true, decide_eq_true_eq] at h5
    omega
  · rw [if_neg a] at h5
    by_cases b : y.f0 = 3 ∨ y.f0 = 4
    · rw [if_pos b] at h5
      simp only [Bool.and_eq_true, decide_eq_true_eq] at h5
      exact ⟨b, h5.1⟩
    · rw [if_neg b] at h5
      by_cases c : y.f0 = 5
      · rw [if_pos c] at h5
        simp only [Bool.and_eq_true, decide_eq_true_eq] at h5
        omega
      · rw [if_neg c] at h5; simp at h5

theorem part_f (y : S30) (sm : SmT y) (hn : ndT y ≤ 1048577) (s : ByteArray) : ∃ (q : S30) (b : Bool), SmT q ∧ Ev (fun k => spec_PartType.f k y.f0 y.f1 y.f2 s) (q.f0, q.f1, q.f2, b) ∧ Ev (fun k => impl_PartType.f k y.f0 y.f1 y.f2 s) (q.f0, q.f1, q.f2, b) := by
  obtain ⟨⟨K1, e1⟩, ⟨K2, e2⟩⟩ := isT_f y sm hn
  obtain ⟨g0, g1, g2, g3⟩ := SmT_f y sm
  have hi := idx_f y.f1 s g1.1
  obtain ⟨il, ig⟩ := idx_lt s y.f1 0
  have z := (sm_leaf 0 (by omega) (by omega)).1
  have no : ∀ k (b : Bool), b = true ∨ idx s y.f1 0 < 0 → y.f1.length + 1 < k → impl_PartType.j0 k s b y.f0 y.f1 y.f2 = some (0, [], [], false) := by
    intro k b h hk
    obtain ⟨k, rfl⟩ := succ_of hk
    cases b
    · rcases h with h | h
      · exact absurd h (by simp)
      · have := (hi k (by omega)).2
        simp only [impl_PartType.j0, Bool.false_eq_true, if_false, this, Option.bind_some, if_pos h]
    · simp only [impl_PartType.j0, if_true]
  by_cases v : isT y = true
  · by_cases c : idx s y.f1 0 < 0
    · refine ⟨⟨0, [], []⟩, false, z, ⟨K1 + y.f1.length + 1, fun k hk => ?_⟩, ⟨K2 + y.f1.length + 2, fun k hk => ?_⟩⟩
      · have e1' : spec_IsValidType.f k y.f0 y.f1 y.f2 = some _ := e1 k (by omega)
        have := (hi k (by omega)).1
        simp only [spec_PartType.f, this, Option.bind_some, e1', v, if_true, if_pos c]
      · have e2' : impl_IsValidType.f k y.f0 y.f1 y.f2 = some _ := e2 k (by omega)
        simp only [impl_PartType.f, e2', Option.bind_some, v, if_true]
        split
        · exact no k _ (.inr c) (by omega)
        · exact no k _ (.inr c) (by omega)
    · obtain ⟨m, hm⟩ := Int.eq_ofNat_of_zero_le (show 0 ≤ idx s y.f1 0 by omega)
      obtain ⟨vk, vl⟩ := valid_labels y v (by omega)
      have ml : m < y.f2.length := by omega
      have sq := g3 _ (List.getElem_mem ml)
      obtain ⟨K3, e3⟩ := copyS_f y.f2[m] sq
      obtain ⟨K4, e4⟩ := copyI_f y.f2[m] sq
      have q1 : (0 : Int) ≤ (m : Int) := Int.natCast_nonneg m
      have q2 : (m : Int) < (y.f2.length : Int) := Int.ofNat_lt.mpr ml
      have q3 : ¬ ((m : Int) < 0) := by omega
      refine ⟨y.f2[m], true, sq, ⟨K1 + K3 + y.f1.length + 1, fun k hk => ?_⟩, ⟨K2 + K4 + y.f1.length + 2, fun k hk => ?_⟩⟩
      · have e1' : spec_IsValidType.f k y.f0 y.f1 y.f2 = some _ := e1 k (by omega)
        have e3' : spec_l3Copy.f k y.f2[m].f0 y.f2[m].f1 y.f2[m].f2 = some _ := e3 k (by omega)
        have := (hi k (by omega)).1
        rw [hm] at this
        simp only [spec_PartType.f, this, Option.bind_some, e1', v, if_true, if_neg q3, if_pos q1, if_pos q2, rdIT y.f2 m ml, e3']
      · have e2' : impl_IsValidType.f k y.f0 y.f1 y.f2 = some _ := e2 k (by omega)
        have yes : impl_PartType.j0 k s false y.f0 y.f1 y.f2 = some (y.f2[m].f0, y.f2[m].f1, y.f2[m].f2, true) := by
          obtain ⟨k, rfl⟩ := succ_of (show 0 < k by omega)
          have e4' : impl_cloneType.f k y.f2[m].f0 y.f2[m].f1 y.f2[m].f2 = some _ := e4 k (by omega)
          have := (hi k (by omega)).2
          rw [hm] at this
          simp only [impl_PartType.j0, Bool.false_eq_true, if_false, this, Option.bind_some, if_neg q3, if_pos q1, if_pos q2, rdIT y.f2 m ml, e4']
        simp only [impl_PartType.f, e2', Option.bind_some, v, if_true]
        by_cases t3 : y.f0 = 3
        · rw [if_pos t3]; exact yes
        · have t4 : (y.f0 != 4) = false := by
            rcases vk with vk | vk
            · exact absurd vk t3
            · rw [vk]; rfl
          rw [if_neg t3, t4]; exact yes
  · refine ⟨⟨0, [], []⟩, false, z, ⟨K1 + y.f1.length + 1, fun k hk => ?_⟩, ⟨K2 + y.f1.length + 2, fun k hk => ?_⟩⟩
    · have e1' : spec_IsValidType.f k y.f0 y.f1 y.f2 = some _ := e1 k (by omega)
      have := (hi k (by omega)).1
      simp only [spec_PartType.f, this, Option.bind_some, e1', v, Bool.false_eq_true, if_false]
    · have e2' : impl_IsValidType.f k y.f0 y.f1 y.f2 = some _ := e2 k (by omega)
      simp only [impl_PartType.f, e2', Option.bind_some, v, Bool.false_eq_true, if_false]
      exact no k _ (.inl rfl) (by omega)

theorem FnTypes : laws_FnTypes.Pure := by
  intro l0 q0 q1 q2
  by_cases hb : laws_big.f l0 = some true
  · exact ⟨1, by simp only [laws_FnTypes.f, hb, Option.bind_some, if_true]⟩
  have hb' : laws_big.f l0 = some false := by
    revert hb
    unfold laws_big.f
    cases decide ((l0.length : Int) > 1048576) <;> simp
  obtain ⟨y, ⟨K, e⟩, sm, hd⟩ := dValid_f l0 q1
  obtain ⟨p, q, ⟨K1, e1⟩, sp⟩ := dEqual_f l0 q1
  obtain ⟨u, lb, ⟨K2, e2⟩, su, hu⟩ := dPart_f l0 q1
  obtain ⟨v, b, sv, ⟨K3, e3⟩, ⟨K4, e4⟩⟩ := part_f u su (by omega) lb
  obtain ⟨K5, e5⟩ := sizeTI_f y sm (by omega)
  obtain ⟨-, ⟨K6, e6⟩⟩ := depthT_f y sm (by omega)
  obtain ⟨⟨K7, e7⟩, ⟨K8, e8⟩⟩ := isT_f y sm (by omega)
  obtain ⟨⟨K9, e9⟩, ⟨K10, e10⟩⟩ := eqT_f p sp q
  obtain ⟨-, ⟨K11, e11⟩⟩ := eqT_f v sv v
  obtain ⟨r, ⟨K12, e12⟩, ⟨K13, e13⟩⟩ := uni_f y sm (by omega)
  obtain ⟨g0, g1, g2, g4⟩ := SmT_f y sm
  have gn := ndT_eq y
  have gp := dpT_eq y
  have gle := dpT_le y
  have gle2 := dpsT_le y.f2
  have loop : ∀ d i (s t : Nat), i + d = y.f2.length → s + ndsT (y.f2.drop i) = ndT y → max t (dpsT (y.f2.drop i)) + 1 = dpT y → Ev (fun k => laws_FnTypes.l0 k l0 s t i y.f0 y.f1 y.f2) true := by
    intro d
    induction d with
    | zero =>
      intro i s t hi hs ht
      have en : y.f2.drop i = [] := List.drop_eq_nil_of_le (by omega)
      rw [en] at hs ht
      simp only [ndsT, dpsT] at hs ht
      refine ⟨K1 + K2 + K3 + K4 + K5 + K6 + K7 + K8 + K9 + K10 + K11 + K12 + K13 + 3, fun k hk => ?_⟩
      obtain ⟨k, rfl⟩ := succ_of (show 0 < k by omega)
      show laws_FnTypes.l0 (k + 1) l0 s t i y.f0 y.f1 y.f2 = some true
      have e1' : spec_DrawEqualType.f k l0 = some _ := e1 k (by omega)
      have e2' : spec_DrawPartType.f k l0 = some _ := e2 k (by omega)
      have e3' : spec_PartType.f k u.f0 u.f1 u.f2 lb = some _ := e3 k (by omega)
      have e4' : impl_PartType.f k u.f0 u.f1 u.f2 lb = some _ := e4 k (by omega)
      have e5' : impl_SizeOfType.f k y.f0 y.f1 y.f2 = some _ := e5 k (by omega)
      have e6' : impl_DepthOfType.f k y.f0 y.f1 y.f2 = some _ := e6 k (by omega)
      have e7' : spec_IsValidType.f k y.f0 y.f1 y.f2 = some _ := e7 k (by omega)
      have e8' : impl_IsValidType.f k y.f0 y.f1 y.f2 = some _ := e8 k (by omega)
      have e9' : spec_EqualType.f k p.f0 p.f1 p.f2 q.f0 q.f1 q.f2 = some _ := e9 k (by omega)
      have e10' : impl_EqualType.f k p.f0 p.f1 p.f2 q.f0 q.f1 q.f2 = some _ := e10 k (by omega)
      have e11' : impl_EqualType.f k v.f0 v.f1 v.f2 v.f0 v.f1 v.f2 = some true := by have := e11 k (by omega); simpa using this
      have e12' : spec_IsUniform.f k y.f0 y.f1 y.f2 = some _ := e12 k (by omega)
      have e13' : impl_IsUniform.f k y.f0 y.f1 y.f2 = some _ := e13 k (by omega)
      have c1 : ¬ ((i : Int) < (y.f2.length : Int)) := by omega
      have c2 : (ndT y : Int) = (s : Int) := by omega
      have c3 : (dpT y : Int) = wrap64 ((t : Int) + 1) := by rw [w64 (by omega) (by omega)]; omega
      rw [laws_FnTypes.l0, if_neg c1, e1', Option.bind_some, e2', Option.bind_some, e4', Option.bind_some, e3', Option.bind_some, e5', Option.bind_some, if_pos c2, e6', Option.bind_some, if_pos c3, e8', Option.bind_some, e7', Option.bind_some, if_pos (beq_self_eq_true _), e10', Option.bind_some, e9', Option.bind_some, if_pos (beq_self_eq_true _), if_pos (beq_self_eq_true _), e11', Option.bind_some, if_pos rfl, e13', Option.bind_some, e12', Option.bind_some, beq_self_eq_true]
    | succ d ihd =>
      intro i s t hi hs ht
      have hlt : i < y.f2.length := by omega
      rw [ndsT_drop y.f2 i hlt] at hs
      rw [dpsT_drop y.f2 i hlt] at ht
      have hm := ndsT_mem y.f2 _ (List.getElem_mem hlt)
      have hdl := dpT_le y.f2[i]
      obtain ⟨K8, e8⟩ := sizeTI_f y.f2[i] (g4 _ (List.getElem_mem hlt)) (by omega)
      obtain ⟨-, ⟨K9, e9⟩⟩ := depthT_f y.f2[i] (g4 _ (List.getElem_mem hlt)) (by omega)
      have ews : wrap64 ((s : Int) + (ndT y.f2[i] : Int)) = ((s + ndT y.f2[i] : Nat) : Int) := by rw [w64 (by omega) (by omega)]; omega
      have ewi : wrap64 ((i : Int) + 1) = ((i + 1 : Nat) : Int) := by rw [w64 (by omega) (by omega)]; omega
      have p1 : (i : Int) < (y.f2.length : Int) := Int.ofNat_lt.mpr hlt
      have p2 : (0 : Int) ≤ (i : Int) := Int.natCast_nonneg i
      by_cases c : dpT y.f2[i] > t
      · obtain ⟨K14, e14⟩ := ihd (i + 1) (s + ndT y.f2[i]) (dpT y.f2[i]) (by omega) (by omega) (by omega)
        have p3 : (dpT y.f2[i] : Int) > (t : Int) := Int.ofNat_lt.mpr c
        refine ⟨K8 + K9 + K14 + 1, fun k hk => ?_⟩
        obtain ⟨k, rfl⟩ := succ_of (show 0 < k by omega)
        have e8' : impl_SizeOfType.f k y.f2[i].f0 y.f2[i].f1 y.f2[i].f2 = some _ := e8 k (by omega)
        have e9' : impl_DepthOfType.f k y.f2[i].f0 y.f2[i].f1 y.f2[i].f2 = some _ := e9 k (by omega)
        show laws_FnTypes.l0 (k + 1) l0 s t i y.f0 y.f1 y.f2 = some true
        rw [laws_FnTypes.l0, if_pos p1, if_pos p2, rdIT y.f2 i hlt, e8', Option.bind_some, e9', Option.bind_some, if_pos p3, Option.bind_some, ews, ewi]
        exact e14 k (by omega)
      · obtain ⟨K14, e14⟩ := ihd (i + 1) (s + ndT y.f2[i]) t (by omega) (by omega) (by omega)
        have p3 : ¬ (dpT y.f2[i] : Int) > (t : Int) := fun h => c (Int.ofNat_lt.mp h)
        refine ⟨K8 + K9 + K14 + 1, fun k hk => ?_⟩
        obtain ⟨k, rfl⟩ := succ_of (show 0 < k by omega)
        have e8' : impl_SizeOfType.f k y.f2[i].f0 y.f2[i].f1 y.f2[i].f2 = some _ := e8 k (by omega)
        have e9' : impl_DepthOfType.f k y.f2[i].f0 y.f2[i].f1 y.f2[i].f2 = some _ := e9 k (by omega)
        show laws_FnTypes.l0 (k + 1) l0 s t i y.f0 y.f1 y.f2 = some true
        rw [laws_FnTypes.l0, if_pos p1, if_pos p2, rdIT y.f2 i hlt, e8', Option.bind_some, e9', Option.bind_some, if_neg p3, ews, ewi]
        exact e14 k (by omega)
  obtain ⟨K14, e14⟩ := loop y.f2.length 0 1 0 (by omega) (by simp only [List.drop_zero]; omega) (by simp only [List.drop_zero]; omega)
  refine ⟨K + K14 + 1, ?_⟩
  simp only [laws_FnTypes.f, hb', Option.bind_some, Bool.false_eq_true, if_false, e _ (show K ≤ K + K14 + 1 by omega)]
  have e14' : laws_FnTypes.l0 (K + K14 + 1) l0 ((1 : Nat) : Int) ((0 : Nat) : Int) ((0 : Nat) : Int) y.f0 y.f1 y.f2 = some true := e14 _ (by omega)
  simp only [Int.natCast_zero, Int.natCast_one] at e14'
  exact e14'

end Go.Proofs.Ytingaflikkeefaa.Pure
