/-  -/
import Derived.Test.YtibcndpadbipmaaXFx11
namespace Go.Proofs.Ytibcndpadbipmaa.Pure
open Go.RowKit Go.Proofs.Ytibcndpadbipmaa.XF Go.Proofs.YtibcndpadbipmaaW.PrintWords Go.Proofs.YtibcndpadbipmaaW.PrintLast

set_option linter.unusedSimpArgs false
set_option linter.unusedVariables false

theorem w64 {n : Int} (h : -9223372036854775808 ≤ n) (h' : n ≤ 9223372036854775807) : wrap64 n = n := by unfold wrap64; omega
theorem cast1 (i : Nat) : (i : Int) + 1 = ((i + 1 : Nat) : Int) := by omega
theorem succ_of {d k : Nat} (h : d < k) : ∃ m, k = m + 1 := ⟨k - 1, by omega⟩

theorem rdI (l : List S29) (i : Nat) (h : i < l.length) : rd_T29 l (i : Int) = l[i] := by simp [rd_T29, h]

mutual
/-- How many optics an optic holds, itself among them. -/
def nd : S29 → Nat
  | ⟨_, _, _, l⟩ => nds l + 1
def nds : List S29 → Nat
  | [] => 0
  | x :: xs => nd x + nds xs
end

theorem nd_eq (y : S29) : nd y = nds y.f3 + 1 := by cases y; simp only [nd]
theorem nds_drop (l : List S29) (i : Nat) (h : i < l.length) : nds (l.drop i) = nd l[i] + nds (l.drop (i + 1)) := by
  rw [List.drop_eq_getElem_cons h, nds]
theorem nds_len (l : List S29) : l.length ≤ nds l := by
  induction l with
  | nil => simp [nds]
  | cons x xs ih => have := nd_eq x; simp only [nds, List.length_cons]; omega
theorem nds_mem (l : List S29) (z : S29) (h : z ∈ l) : nd z ≤ nds l := by
  induction l with
  | nil => simp at h
  | cons x xs ih =>
    simp only [nds]
    rcases List.mem_cons.1 h with rfl | h
    · omega
    · have := ih h; omega

/-- An optic within bounds, all the way down. -/
inductive Sm : S29 → Prop
  | mk (y : S29) (h0 : -9223372036854775808 ≤ y.f0 ∧ y.f0 ≤ 9223372036854775807) (h1 : y.f1.size ≤ 1048576) (h2 : -9223372036854775808 ≤ y.f2 ∧ y.f2 ≤ 9223372036854775807) (h3 : y.f3.length ≤ 1048576) (h4 : ∀ z ∈ y.f3, Sm z) : Sm y

theorem wf64 {n : Int} (h : (Lit.int .i64 n).wf = true) : -9223372036854775808 ≤ n ∧ n ≤ 9223372036854775807 := by
  simpa [Lit.wf, IntKind.min, IntKind.max, IntKind.signed, IntKind.bits] using h

theorem sizeI_f (y : S29) (sm : Sm y) (hn : nd y ≤ 1048577) : Ev (fun k => impl_SizeOf.f k y.f0 y.f1 y.f2 y.f3) (nd y) := by
  induction sm with
  | mk y h0 h1 h2 h3 h4 ih =>
    have he := nd_eq y
    have loop : ∀ d i (a : Int), i + d = y.f3.length → 0 ≤ a → a + nds (y.f3.drop i) ≤ 1048577 → Ev (fun k => impl_SizeOf.l0 k a y.f3 y.f3.length i) (a + nds (y.f3.drop i)) := by
      intro d
      induction d with
      | zero =>
        intro i a hi ha hb
        have e0 : (nds (y.f3.drop i) : Int) = 0 := by rw [List.drop_of_length_le (by omega)]; simp [nds]
        rw [e0, Int.add_zero]
        refine ⟨1, fun k hk => ?_⟩
        obtain ⟨k, rfl⟩ := succ_of (show 0 < k by omega)
        simp (disch := omega) only [impl_SizeOf.l0, if_neg]
      | succ d ihd =>
        intro i a hi ha hb
        have hlt : i < y.f3.length := by omega
        rw [nds_drop y.f3 i hlt] at hb ⊢
        have hm := nds_mem y.f3 _ (List.getElem_mem hlt)
        obtain ⟨K2, e2⟩ := ih y.f3[i] (List.getElem_mem hlt) (by omega)
        obtain ⟨K4, e4⟩ := ihd (i + 1) (a + nd y.f3[i]) (by omega) (by omega) (by omega)
        have ea : a + ((nd y.f3[i] + nds (y.f3.drop (i + 1)) : Nat) : Int) = a + nd y.f3[i] + nds (y.f3.drop (i + 1)) := by omega
        rw [ea]
        refine ⟨K2 + K4 + 1, fun k hk => ?_⟩
        obtain ⟨k, rfl⟩ := succ_of (show 0 < k by omega)
        simp (disch := omega) only [impl_SizeOf.l0, rdI, if_pos, e2, Option.bind_some, w64, cast1, e4]
    obtain ⟨K4, e4⟩ := loop y.f3.length 0 1 (by omega) (by omega) (by simp only [List.drop_zero]; omega)
    have ea : (1 : Int) + nds (y.f3.drop 0) = nd y := by simp only [List.drop_zero]; omega
    rw [ea] at e4
    refine ⟨K4 + 1, fun k hk => ?_⟩
    obtain ⟨k, rfl⟩ := succ_of (show 0 < k by omega)
    simp only [impl_SizeOf.f]; exact e4 k (by omega)

mutual
/-- How deep an optic is. -/
def dp : S29 → Nat
  | ⟨_, _, _, l⟩ => dps l + 1
def dps : List S29 → Nat
  | [] => 0
  | x :: xs => max (dp x) (dps xs)
end

theorem dp_eq (y : S29) : dp y = dps y.f3 + 1 := by cases y; simp only [dp]
theorem dps_drop (l : List S29) (i : Nat) (h : i < l.length) : dps (l.drop i) = max (dp l[i]) (dps (l.drop (i + 1))) := by
  rw [List.drop_eq_getElem_cons h, dps]
mutual
theorem dp_le : ∀ y : S29, dp y ≤ nd y
  | ⟨a, b, c, l⟩ => by simp only [dp, nd]; have := dps_le l; omega
theorem dps_le : ∀ l : List S29, dps l ≤ nds l
  | [] => by simp [dps, nds]
  | x :: xs => by simp only [dps, nds]; have := dp_le x; have := dps_le xs; omega
end

theorem mx_nat (a b : Nat) : mx (a : Int) (b : Int) = ((max a b : Nat) : Int) := by unfold mx; split <;> omega

theorem depth_f (y : S29) (sm : Sm y) (hn : nd y ≤ 1048577) : Ev (fun k => spec_DepthOf.f k y.f0 y.f1 y.f2 y.f3) (dp y) ∧ Ev (fun k => impl_DepthOf.f k y.f0 y.f1 y.f2 y.f3) (dp y) := by
  induction sm with
  | mk y h0 h1 h2 h3 h4 ih =>
    have he := nd_eq y
    have hd := dp_eq y
    have hle := dp_le y
    have loop : ∀ d i (a : Nat), i + d = y.f3.length → a ≤ 1048577 → Ev (fun k => spec_DepthOf.l0 k a i y.f0 y.f1 y.f2 y.f3) ((max a (dps (y.f3.drop i)) + 1 : Nat) : Int) ∧ Ev (fun k => impl_DepthOf.l0 k a y.f3 y.f3.length i) ((max a (dps (y.f3.drop i)) + 1 : Nat) : Int) := by
      intro d
      induction d with
      | zero =>
        intro i a hi ha
        have e0 : dps (y.f3.drop i) = 0 := by rw [List.drop_of_length_le (by omega)]; simp [dps]
        have e1 : max a (dps (y.f3.drop i)) + 1 = a + 1 := by omega
        rw [e1]
        refine ⟨⟨1, fun k hk => ?_⟩, ⟨1, fun k hk => ?_⟩⟩ <;> obtain ⟨k, rfl⟩ := succ_of (show 0 < k by omega)
        · simp (disch := omega) only [spec_DepthOf.l0, if_neg, w64, cast1]
        · simp (disch := omega) only [impl_DepthOf.l0, if_neg, w64, cast1]
      | succ d ihd =>
        intro i a hi ha
        have hlt : i < y.f3.length := by omega
        have hm := nds_mem y.f3 _ (List.getElem_mem hlt)
        have hz := dp_le y.f3[i]
        rw [dps_drop y.f3 i hlt]
        obtain ⟨⟨K1, e1⟩, ⟨K2, e2⟩⟩ := ih y.f3[i] (List.getElem_mem hlt) (by omega)
        obtain ⟨⟨K3, e3⟩, ⟨K4, e4⟩⟩ := ihd (i + 1) (max a (dp y.f3[i])) (by omega) (by omega)
        have ea : max a (max (dp y.f3[i]) (dps (y.f3.drop (i + 1)))) = max (max a (dp y.f3[i])) (dps (y.f3.drop (i + 1))) := by omega
        rw [ea]
        refine ⟨⟨K1 + K3 + 1, fun k hk => ?_⟩, ⟨K2 + K4 + 1, fun k hk => ?_⟩⟩ <;> obtain ⟨k, rfl⟩ := succ_of (show 0 < k by omega)
        · have em : spec_l1Max.f (a : Int) (dp y.f3[i] : Int) = some ((max a (dp y.f3[i]) : Nat) : Int) := by
            unfold spec_l1Max.f; split <;> congr 1 <;> omega
          simp (disch := omega) only [spec_DepthOf.l0, rdI, if_pos, e1, Option.bind_some, em, w64, cast1, e3]
        · simp (disch := omega) only [impl_DepthOf.l0, rdI, if_pos, e2, Option.bind_some, mx_nat, w64, cast1, e4]
    obtain ⟨⟨K3, e3⟩, ⟨K4, e4⟩⟩ := loop y.f3.length 0 0 (by omega) (by omega)
    have ea : max 0 (dps (y.f3.drop 0)) + 1 = dp y := by simp only [List.drop_zero]; omega
    rw [ea] at e3 e4
    refine ⟨⟨K3 + 1, fun k hk => ?_⟩, ⟨K4 + 1, fun k hk => ?_⟩⟩ <;> obtain ⟨k, rfl⟩ := succ_of (show 0 < k by omega)
    · simp only [spec_DepthOf.f]; exact e3 k (by omega)
    · simp only [impl_DepthOf.f]; exact e4 k (by omega)

/-- May this byte stand at this place of a name? -/
def okb (s : ByteArray) (i : Int) : Bool := if 97 ≤ bt s i ∧ bt s i ≤ 122 then true else if i = 0 then false else decide (48 ≤ bt s i ∧ bt s i ≤ 57)

/-- So many bytes from a place on may stand in a name. -/
def okn (s : ByteArray) : Nat → Int → Bool
  | 0, _ => true
  | d + 1, i => okb s i && okn s d (i + 1)

theorem byte_ok (s : ByteArray) (i : Int) : impl_nameByte.f (bt s i) (i == 0) = some (okb s i) := by
  unfold impl_nameByte.f okb
  by_cases h0 : i = 0
  · subst h0
    by_cases h1 : bt s 0 ≥ 97 <;> by_cases h2 : bt s 0 ≤ 122 <;> simp [h1, h2]
  · by_cases h1 : bt s i ≥ 97 <;> by_cases h2 : bt s i ≤ 122 <;> by_cases h3 : bt s i ≥ 48 <;> by_cases h4 : bt s i ≤ 57 <;> first | (exfalso; omega) | simp [h0, h1, h2, h3, h4]

theorem okb_ite (s : ByteArray) (i : Int) : (if bt s i ≥ 97 then (if bt s i ≤ 122 then true else (if i = 0 then false else (if bt s i < 48 then false else (if bt s i > 57 then false else true)))) else (if i = 0 then false else (if bt s i < 48 then false else (if bt s i > 57 then false else true)))) = okb s i := by
  unfold okb
  by_cases h2 : bt s i ≥ 97 <;> by_cases h3 : bt s i ≤ 122 <;> by_cases h5 : bt s i < 48 <;> by_cases h6 : bt s i > 57 <;> by_cases h4 : i = 0 <;> first | (exfalso; omega) | (have e1 : 48 ≤ bt s i := by omega) | skip
  all_goals first | (have e2 : ¬ 48 ≤ bt s i := by omega) | skip
  all_goals first | (have e3 : bt s i ≤ 57 := by omega) | (have e3 : ¬ bt s i ≤ 57 := by omega)
  all_goals simp [*]

theorem name_spec_loop (s : ByteArray) (hn : s.size ≤ 140737488351232) (d : Nat) : ∀ (k : Nat) (i : Int), 0 ≤ i → i + d = s.size → d < k →
    spec_IsName.l0 k s i = some (okn s d i && (decide (1 ≤ s.size) && decide (s.size ≤ 4))) := by
  induction d with
  | zero =>
    intro k i h0 h1 hk
    obtain ⟨k, rfl⟩ := succ_of hk
    simp only [spec_IsName.l0, spec_l1In.f]
    rw [if_neg (by omega)]
    have e : decide ((s.size : Int) ≤ 4) = decide (s.size ≤ 4) := decide_eq_decide.mpr (by omega)
    by_cases h : (s.size : Int) ≥ 1
    · have h' : 1 ≤ s.size := by omega
      rw [if_pos h, e]; simp [h', okn]
    · have h' : s.size = 0 := by omega
      rw [if_neg h]; simp [h', okn]
  | succ d ih =>
    intro k i h0 h1 hk
    obtain ⟨k, rfl⟩ := succ_of hk
    have hi := ih k (i + 1) (by omega) (by omega) (by omega)
    simp (disch := omega) only [spec_IsName.l0, if_pos, w64]
    rw [hi]
    simp only [okn]
    rw [← okb_ite]
    repeat' split
    all_goals first | (exfalso; omega) | simp_all

theorem name_impl_loop (s : ByteArray) (hn : s.size ≤ 140737488351232) (d : Nat) : ∀ (k : Nat) (i : Int), 0 ≤ i → i + d = s.size → d < k →
    impl_IsName.l0 k s (s.size : Int) i = some (okn s d i) := by
  induction d with
  | zero =>
    intro k i h0 h1 hk
    obtain ⟨k, rfl⟩ := succ_of hk
    simp (disch := omega) only [impl_IsName.l0, if_neg, okn]
  | succ d ih =>
    intro k i h0 h1 hk
    obtain ⟨k, rfl⟩ := succ_of hk
    have hi := ih k (i + 1) (by omega) (by omega) (by omega)
    simp (disch := omega) only [impl_IsName.l0, if_pos, w64, byte_ok]
    rw [hi]
    simp only [okn, Option.bind_some]
    cases okb s i <;> simp

/-- Is this a name? -/
def nmok (s : ByteArray) : Bool := okn s s.size 0 && (decide (1 ≤ s.size) && decide (s.size ≤ 4))

theorem name_spec (s : ByteArray) (hn : s.size ≤ 140737488351232) (k : Nat) (hk : s.size < k) : spec_IsName.f k s = some (nmok s) :=
  name_spec_loop s hn s.size k 0 (by omega) (by omega) hk

theorem name_impl (s : ByteArray) (hn : s.size ≤ 140737488351232) (k : Nat) (hk : s.size + 1 < k) : impl_IsName.f k s = some (nmok s) := by
  obtain ⟨k, rfl⟩ := succ_of hk
  have hi := name_impl_loop s hn s.size k 0 (by omega) (by omega) (by omega)
  unfold nmok
  simp only [impl_IsName.f, impl_IsName.j0, hi]
  by_cases h : (s.size : Int) = 0
  · have h' : s.size = 0 := by omega
    rw [if_pos h]; simp [h']
  · have h' : 1 ≤ s.size := by omega
    rw [if_neg h]
    by_cases h4 : (s.size : Int) > 4
    · have h4' : ¬ s.size ≤ 4 := by omega
      simp [h4, h4']
    · have h4' : s.size ≤ 4 := by omega
      simp [h', h4']; omega

theorem nmok_empty : nmok ⟨#[]⟩ = false := by decide

theorem nmok_size {s : ByteArray} (h : nmok s = true) : s.size ≤ 4 := by
  unfold nmok at h
  simp at h
  omega

theorem left_f (y : S29) (sm : Sm y) (hn : nd y ≤ 1048577) : ∀ left : Int, 0 ≤ left → left ≤ 1048576 → ∃ r, Ev (fun k => spec_l7Left.f k y.f0 y.f1 y.f2 y.f3 left) r ∧ r ≤ 1048576 ∧ ((nd y : Int) ≤ left → r = left - nd y) ∧ (left < (nd y : Int) → r < 0) := by
  induction sm with
  | mk y h0 h1 h2 h3 h4 ih =>
    intro left g0 g1
    have he := nd_eq y
    have loop : ∀ d i (a : Int), i + d = y.f3.length → -1 ≤ a → a ≤ 1048576 → ∃ r, Ev (fun k => spec_l7Left.l0 k a i y.f0 y.f1 y.f2 y.f3) r ∧ r ≤ 1048576 ∧ ((nds (y.f3.drop i) : Int) ≤ a → r = a - nds (y.f3.drop i)) ∧ (a < (nds (y.f3.drop i) : Int) → r < 0) := by
      intro d
      induction d with
      | zero =>
        intro i a hi ha hb
        have e0 : (nds (y.f3.drop i) : Int) = 0 := by rw [List.drop_of_length_le (by omega)]; simp [nds]
        rw [e0]
        refine ⟨a, ⟨1, fun k hk => ?_⟩, hb, fun _ => by omega, fun h => h⟩
        obtain ⟨k, rfl⟩ := succ_of (show 0 < k by omega)
        simp (disch := omega) only [spec_l7Left.l0, if_neg]
      | succ d ihd =>
        intro i a hi ha hb
        have hlt : i < y.f3.length := by omega
        rw [nds_drop y.f3 i hlt]
        have hm := nds_mem y.f3 _ (List.getElem_mem hlt)
        have hp := nd_eq y.f3[i]
        by_cases hneg : a < 0
        · refine ⟨a, ⟨1, fun k hk => ?_⟩, hb, fun _ => by omega, fun _ => hneg⟩
          obtain ⟨k, rfl⟩ := succ_of (show 0 < k by omega)
          simp (disch := omega) only [spec_l7Left.l0, if_pos, if_neg]
        · obtain ⟨r1, ⟨K1, e1⟩, hb1, q1, q2⟩ := ih y.f3[i] (List.getElem_mem hlt) (by omega) a (by omega) hb
          by_cases hr : (nd y.f3[i] : Int) ≤ a
          · have hr1 := q1 hr
            obtain ⟨r, ⟨K3, e3⟩, hb3, q3, q4⟩ := ihd (i + 1) r1 (by omega) (by omega) hb1
            refine ⟨r, ⟨K1 + K3 + 1, fun k hk => ?_⟩, hb3, fun h => by rw [q3 (by omega)]; omega, fun h => q4 (by omega)⟩
            obtain ⟨k, rfl⟩ := succ_of (show 0 < k by omega)
            simp (disch := omega) only [spec_l7Left.l0, rdI, if_pos, e1, Option.bind_some, w64, cast1, e3]
          · have hr1 := q2 (by omega)
            refine ⟨r1, ⟨K1 + 2, fun k hk => ?_⟩, hb1, fun h => by omega, fun _ => hr1⟩
            obtain ⟨k, rfl⟩ : ∃ m, k = m + 2 := ⟨k - 2, by omega⟩
            have e1' := e1 (k + 1) (by omega)
            simp (disch := omega) only [spec_l7Left.l0, rdI, if_pos, e1', Option.bind_some, w64, cast1, if_neg, ite_self]
    obtain ⟨r, ⟨K3, e3⟩, hb3, q3, q4⟩ := loop y.f3.length 0 (left - 1) (by omega) (by omega) (by omega)
    rw [List.drop_zero] at q3 q4
    refine ⟨r, ⟨K3 + 1, fun k hk => ?_⟩, hb3, fun h => by rw [q3 (by omega)]; omega, fun h => q4 (by omega)⟩
    obtain ⟨k, rfl⟩ := succ_of (show 0 < k by omega)
    have e3' := e3 k (by omega)
    simp only [Int.natCast_zero] at e3'
    simp (disch := omega) only [spec_l7Left.f, w64, e3']

/-- How many arguments a kind of optic takes. -/
def ar (k : Int) : Int := if k < 1 ∨ 13 < k then -1 else if k = 11 then 1 else if k = 12 ∨ k = 13 then 2 else 0

theorem ar_spec (k : Nat) (a : Int) (hk : 0 < k) : spec_ArityOf.f k a = some (ar a) := by
  obtain ⟨k, rfl⟩ := succ_of hk
  simp only [spec_ArityOf.f, spec_ArityOf.j0, spec_l1In.f, ar]
  by_cases h1 : a = 11
  · subst h1; rfl
  by_cases h2 : a = 12
  · subst h2; rfl
  by_cases h3 : a = 13
  · subst h3; rfl
  by_cases h4 : a < 1
  · have h5 : ¬ a ≥ 1 := by omega
    simp [h1, h2, h3, h4, h5]
  · have h5 : a ≥ 1 := by omega
    by_cases h6 : a > 13
    · have h7 : ¬ a ≤ 10 := by omega
      simp [h1, h2, h3, h4, h5, h6, h7]
    · have h7 : a ≤ 10 := by omega
      simp [h1, h2, h3, h4, h5, h6, h7]

theorem ar_impl (k : Nat) (a : Int) (hk : 0 < k) : impl_ArityOf.f k a = some (ar a) := by
  obtain ⟨k, rfl⟩ := succ_of hk
  simp only [impl_ArityOf.f, impl_ArityOf.j0, ar]
  by_cases h4 : a < 1
  · simp [h4]
  · by_cases h6 : a > 13
    · simp [h4, h6]
    · by_cases h1 : a = 11
      · subst h1; rfl
      by_cases h2 : a = 12
      · subst h2; rfl
      by_cases h3 : a = 13
      · subst h3; rfl
      simp [h1, h2, h3, h4, h6]

/-- Is an optic well formed, its arguments left aside? -/
def lf (y : S29) : Bool :=
  decide ((y.f3.length : Int) = ar y.f0) &&
    (if y.f0 = 2 ∨ y.f0 = 3 ∨ y.f0 = 10 then nmok y.f1 && decide (y.f2 = 0)
     else decide (y.f1.toList = []) && (if y.f0 = 6 then decide (0 ≤ y.f2) && decide (y.f2 ≤ 1000) else if y.f0 = 7 then decide (-1000 ≤ y.f2) && decide (y.f2 ≤ 1000) else decide (y.f2 = 0)))

mutual
/-- Is an optic well formed? -/
def fm : S29 → Bool
  | ⟨a, b, c, l⟩ => fms l && lf ⟨a, b, c, l⟩
def fms : List S29 → Bool
  | [] => true
  | x :: xs => fm x && fms xs
end

theorem fm_eq (y : S29) : fm y = (fms y.f3 && lf y) := by cases y; simp only [fm]
theorem fms_drop (l : List S29) (i : Nat) (h : i < l.length) : fms (l.drop i) = (fm l[i] && fms (l.drop (i + 1))) := by
  rw [List.drop_eq_getElem_cons h, fms]

theorem empty_list {s : ByteArray} (h : s.toList = []) : nmok s = false := by
  have hs : s.size = 0 := by
    rw [ByteArray.toList_eq] at h
    have := congrArg List.length h
    simpa using this
  unfold nmok
  simp [hs]

theorem l1In_f (a b c : Int) : spec_l1In.f a b c = some (decide (b ≤ a) && decide (a ≤ c)) := by
  unfold spec_l1In.f
  by_cases h : a ≥ b
  · have h' : b ≤ a := h
    simp [h']
  · have h' : ¬ b ≤ a := h
    simp [h']

theorem j2_spec (y : S29) (b : Bool) (k : Nat) (hk : 0 < k) : spec_l7Form.j2 k b y.f0 y.f1 y.f2 y.f3 = some (!b && (if y.f0 = 6 then decide (0 ≤ y.f2) && decide (y.f2 ≤ 1000) else if y.f0 = 7 then decide (-1000 ≤ y.f2) && decide (y.f2 ≤ 1000) else decide (y.f2 = 0))) := by
  obtain ⟨k, rfl⟩ := succ_of hk
  simp only [spec_l7Form.j2, l1In_f, Option.bind_some]
  cases b
  · by_cases h6 : y.f0 = 6
    · simp [h6]
    · by_cases h7 : y.f0 = 7
      · simp [h7]
      · by_cases h8 : y.f2 = 0 <;> simp [h6, h7, h8]
  · simp

theorem j1_spec (y : S29) (h1 : y.f1.size ≤ 1048576) (k : Nat) (hk : y.f1.size + 3 < k) : spec_l7Form.j1 k (decide (y.f0 = 2 ∨ y.f0 = 3 ∨ y.f0 = 10)) y.f0 y.f1 y.f2 y.f3 = some (lf y) := by
  obtain ⟨k, rfl⟩ := succ_of hk
  have hb : (((y.f3.length : Int) != ar y.f0)) = !decide ((y.f3.length : Int) = ar y.f0) := by
    by_cases h : (y.f3.length : Int) = ar y.f0
    · rw [h]; simp
    · rw [bne_iff_ne.mpr h]; simp [h]
  simp only [spec_l7Form.j1, name_spec y.f1 (by omega) k (by omega), ar_spec k y.f0 (by omega), Option.bind_some, j2_spec y _ k (by omega), hb]
  unfold lf
  by_cases hn : y.f0 = 2 ∨ y.f0 = 3 ∨ y.f0 = 10
  · have h6 : ¬ y.f0 = 6 := by omega
    have h7 : ¬ y.f0 = 7 := by omega
    simp only [hn, decide_true, if_true, h6, h7, if_false]
    cases nmok y.f1 <;> simp
  · simp only [hn, decide_false, if_false]
    by_cases he : y.f1.toList = []
    · rw [empty_list he]; simp [he]
    · cases nmok y.f1 <;> simp [he]

theorem form_spec (y : S29) (sm : Sm y) : Ev (fun k => spec_l7Form.f k y.f0 y.f1 y.f2 y.f3) (fm y) := by
  induction sm with
  | mk y h0 h1 h2 h3 h4 ih =>
    have loop : ∀ d i, i + d = y.f3.length → Ev (fun k => spec_l7Form.l0 k i y.f0 y.f1 y.f2 y.f3) (fms (y.f3.drop i) && lf y) := by
      intro d
      induction d with
      | zero =>
        intro i hi
        have e0 : fms (y.f3.drop i) = true := by rw [List.drop_of_length_le (by omega)]; simp [fms]
        rw [e0, Bool.true_and]
        refine ⟨y.f1.size + 5, fun k hk => ?_⟩
        obtain ⟨k, rfl⟩ := succ_of (show 0 < k by omega)
        have hj := j1_spec y h1 k (by omega)
        simp (disch := omega) only [spec_l7Form.l0, if_neg]
        by_cases a2 : y.f0 = 2
        · rw [if_pos a2]; simpa [a2] using hj
        · rw [if_neg a2]
          by_cases a3 : y.f0 = 3
          · rw [if_pos a3]; simpa [a3] using hj
          · rw [if_neg a3]
            by_cases a10 : y.f0 = 10
            · rw [a10] at hj ⊢; simpa using hj
            · rw [beq_eq_false_iff_ne.mpr a10]; simpa [a2, a3, a10] using hj
      | succ d ihd =>
        intro i hi
        have hlt : i < y.f3.length := by omega
        obtain ⟨K1, e1⟩ := ih y.f3[i] (List.getElem_mem hlt)
        obtain ⟨K2, e2⟩ := ihd (i + 1) (by omega)
        rw [fms_drop y.f3 i hlt]
        refine ⟨K1 + K2 + 1, fun k hk => ?_⟩
        obtain ⟨k, rfl⟩ := succ_of (show 0 < k by omega)
        simp (disch := omega) only [spec_l7Form.l0, rdI, if_pos, e1, Option.bind_some, w64, cast1, e2]
        cases fm y.f3[i] <;> simp
    obtain ⟨K, e⟩ := loop y.f3.length 0 (by omega)
    rw [fm_eq]
    refine ⟨K + 1, fun k hk => ?_⟩
    obtain ⟨k, rfl⟩ := succ_of (show 0 < k by omega)
    have e' := e k (by omega)
    simp only [Int.natCast_zero, List.drop_zero] at e'
    simp only [spec_l7Form.f, e']

theorem stepOk_f (a : Int) : impl_stepOk.f a = some (decide (-1000 ≤ a) && decide (a ≤ 1000)) := by
  unfold impl_stepOk.f
  by_cases h : a ≥ -1000
  · have h' : -1000 ≤ a := h
    simp [h']
  · have h' : ¬ -1000 ≤ a := h
    simp [h']

theorem form_impl (y : S29) (sm : Sm y) : Ev (fun k => impl_opticFormed.f k y.f0 y.f1 y.f2 y.f3) (fm y) := by
  induction sm with
  | mk y h0 h1 h2 h3 h4 ih =>
    have loop : ∀ d i, i + d = y.f3.length → ∀ b : Bool, Ev (fun k => impl_opticFormed.l0 k b y.f3 y.f3.length i) (b && fms (y.f3.drop i)) := by
      intro d
      induction d with
      | zero =>
        intro i hi b
        have e0 : fms (y.f3.drop i) = true := by rw [List.drop_of_length_le (by omega)]; simp [fms]
        rw [e0, Bool.and_true]
        refine ⟨1, fun k hk => ?_⟩
        obtain ⟨k, rfl⟩ := succ_of (show 0 < k by omega)
        simp (disch := omega) only [impl_opticFormed.l0, if_neg]
      | succ d ihd =>
        intro i hi b
        have hlt : i < y.f3.length := by omega
        obtain ⟨K1, e1⟩ := ih y.f3[i] (List.getElem_mem hlt)
        obtain ⟨K2, e2⟩ := ihd (i + 1) (by omega) (b && fm y.f3[i])
        obtain ⟨K3, e3⟩ := ihd (i + 1) (by omega) false
        rw [fms_drop y.f3 i hlt, ← Bool.and_assoc]
        refine ⟨K1 + K2 + K3 + 1, fun k hk => ?_⟩
        obtain ⟨k, rfl⟩ := succ_of (show 0 < k by omega)
        have e2' := e2 k (by omega)
        have e3' := e3 k (by omega)
        simp (disch := omega) only [impl_opticFormed.l0, rdI, if_pos, e1, Option.bind_some, w64, cast1]
        cases b
        · simpa using e3'
        · simpa using e2'
    have fin : ∀ b : Bool, Ev (fun k => impl_opticFormed.j1 k b y.f0 y.f1 y.f2 y.f3) (b && fms y.f3) := by
      intro b
      obtain ⟨K, e⟩ := loop y.f3.length 0 (by omega) b
      refine ⟨K + 1, fun k hk => ?_⟩
      obtain ⟨k, rfl⟩ := succ_of (show 0 < k by omega)
      have e' := e k (by omega)
      simp only [Int.natCast_zero, List.drop_zero] at e'
      simp only [impl_opticFormed.j1, e']
    obtain ⟨K1, t1⟩ := fin true
    obtain ⟨K2, t2⟩ := fin false
    have fin' : ∀ (b : Bool) (k : Nat), K1 + K2 ≤ k → impl_opticFormed.j1 k b y.f0 y.f1 y.f2 y.f3 = some (b && fms y.f3) := by
      intro b k hk
      cases b
      · exact t2 k (by omega)
      · exact t1 k (by omega)
    rw [fm_eq, Bool.and_comm]
    refine ⟨K1 + K2 + y.f1.size + 10, fun k hk => ?_⟩
    obtain ⟨k, rfl⟩ : ∃ m, k = m + 2 := ⟨k - 2, by omega⟩
    have hbe : ((y.f3.length : Int) == ar y.f0) = decide ((y.f3.length : Int) = ar y.f0) := rfl
    simp only [impl_opticFormed.f, impl_opticFormed.j0, ar_impl (k + 1) y.f0 (by omega), Option.bind_some, hbe, name_impl y.f1 (by omega) k (by omega), stepOk_f, fin' _ k (by omega)]
    unfold lf
    cases decide ((y.f3.length : Int) = ar y.f0)
    · by_cases a2 : y.f0 = 2
      · simp [a2]
      · by_cases a3 : y.f0 = 3
        · simp [a3]
        · by_cases a10 : y.f0 = 10
          · simp [a10]
          · by_cases a6 : y.f0 = 6
            · simp [a6]
            · by_cases a7 : y.f0 = 7
              · simp [a7]
              · simp [a2, a3, a10, a6, a7]
    · by_cases a2 : y.f0 = 2
      · cases hnm : nmok y.f1 <;> simp [a2, hnm]
        rfl
      · by_cases a3 : y.f0 = 3
        · cases hnm : nmok y.f1 <;> simp [a3, hnm]
          rfl
        · by_cases a10 : y.f0 = 10
          · cases hnm : nmok y.f1 <;> simp [a10, hnm]
            rfl
          · by_cases he : y.f1.toList = []
            · by_cases a6 : y.f0 = 6
              · by_cases h9 : y.f2 ≥ 0 <;> simp [a6, he, h9]
              · by_cases a7 : y.f0 = 7
                · simp [a7, he]
                · simp [a2, a3, a10, a6, a7, he]; rfl
            · by_cases a6 : y.f0 = 6
              · simp [a6, he]
              · by_cases a7 : y.f0 = 7
                · simp [a7, he]
                · simp [a2, a3, a10, a6, a7, he]

/-- Is this an optic? -/
def isO (y : S29) : Bool := decide (nd y ≤ 20) && (decide (dp y ≤ 10) && fm y)

theorem is_f (y : S29) (sm : Sm y) (hn : nd y ≤ 1048577) : Ev (fun k => spec_IsOptic.f k y.f0 y.f1 y.f2 y.f3) (isO y) ∧ Ev (fun k => impl_IsOptic.f k y.f0 y.f1 y.f2 y.f3) (isO y) := by
  obtain ⟨K1, e1⟩ := sizeI_f y sm hn
  obtain ⟨⟨K2, e2⟩, ⟨K3, e3⟩⟩ := depth_f y sm hn
  obtain ⟨K4, e4⟩ := form_spec y sm
  obtain ⟨K5, e5⟩ := form_impl y sm
  obtain ⟨r, ⟨K6, e6⟩, _, q1, q2⟩ := left_f y sm hn 20 (by omega) (by omega)
  unfold isO
  constructor
  · refine ⟨K2 + K4 + K6, fun k hk => ?_⟩
    have e2' := e2 k (by omega)
    have e4' := e4 k (by omega)
    have e6' := e6 k (by omega)
    simp only [spec_IsOptic.f, e2', e4', e6', Option.bind_some]
    by_cases h : nd y ≤ 20
    · have hr := q1 (by omega)
      rw [if_pos (by omega)]
      by_cases h2 : dp y ≤ 10
      · rw [if_pos (by omega)]; simp [h, h2]
      · rw [if_neg (by omega)]; simp [h2]
    · have hr := q2 (by omega)
      rw [if_neg (by omega)]; simp [h]
  · refine ⟨K1 + K3 + K5, fun k hk => ?_⟩
    have e1' := e1 k (by omega)
    have e3' := e3 k (by omega)
    have e5' := e5 k (by omega)
    simp only [impl_IsOptic.f, e1', e3', e5', Option.bind_some]
    by_cases h : nd y ≤ 20
    · rw [if_pos (by omega)]
      by_cases h2 : dp y ≤ 10
      · rw [if_pos (by omega)]; simp [h, h2]
      · rw [if_neg (by omega)]; simp [h2]
    · rw [if_neg (by omega)]; simp [h]

theorem strOf_bytes (s : ByteArray) : strOfNums (bytesOf s) = s := by
  obtain ⟨⟨l⟩⟩ := s
  have : (bytesOf ⟨⟨l⟩⟩).map (fun n => UInt8.ofNat n.toNat) = l := by
    simp [bytesOf, List.map_map, Function.comp_def]
  unfold strOfNums
  rw [this]

theorem bytes_inj {s t : ByteArray} (h : bytesOf s = bytesOf t) : s = t := by
  rw [← strOf_bytes s, h, strOf_bytes]

theorem ext_data (s : ByteArray) (a b : Nat) : (s.extract a b).data.toList = (s.data.toList.drop a).take (b - a) := by
  obtain ⟨⟨l⟩⟩ := s
  rw [ByteArray.extract_mk]

theorem bytes_extract (s : ByteArray) (a b : Nat) : bytesOf (s.extract a b) = ((bytesOf s).drop a).take (b - a) := by
  unfold bytesOf
  rw [ext_data, List.map_take, List.map_drop]

theorem bytes_append (s t : ByteArray) : bytesOf (s ++ t) = bytesOf s ++ bytesOf t := by
  obtain ⟨⟨l⟩⟩ := s
  obtain ⟨⟨m⟩⟩ := t
  simp [bytesOf]

theorem bytes_one (m : Nat) (h : m < 10) : bytesOf (strOfNums [48 + (m : Int)]) = [48 + (m : Int)] := by
  simp [bytesOf, strOfNums]; omega

theorem toList_iff (s t : ByteArray) : s.toList = t.toList ↔ s = t := by
  constructor
  · intro h
    rw [ByteArray.toList_eq, ByteArray.toList_eq] at h
    apply bytes_inj
    unfold bytesOf
    rw [h]
  · rintro rfl; rfl

theorem lst_step {α : Type} (a b : List α) (i : Nat) (ha : i < a.length) (hb : i < b.length) : (a.drop i = b.drop i) ↔ (a[i] = b[i] ∧ a.drop (i + 1) = b.drop (i + 1)) := by
  rw [List.drop_eq_getElem_cons ha, List.drop_eq_getElem_cons hb, List.cons.injEq]

theorem sO_iff (y z : S29) : y = z ↔ (y.f0 = z.f0 ∧ y.f1 = z.f1 ∧ y.f2 = z.f2 ∧ y.f3 = z.f3) := by
  cases y; cases z; simp

open Classical in
theorem eq_f2 (y : S29) (sm : Sm y) : ∀ z : S29, Ev (fun k => spec_EqualOptic.f k y.f0 y.f1 y.f2 y.f3 z.f0 z.f1 z.f2 z.f3) (decide (y = z)) ∧ Ev (fun k => impl_EqualOptic.f k y.f0 y.f1 y.f2 y.f3 z.f0 z.f1 z.f2 z.f3) (decide (y = z)) := by
  induction sm with
  | mk y h0 h1 h2 h3 h4 ih =>
    intro z
    have hi := sO_iff y z
    by_cases a0 : y.f0 = z.f0 ∧ y.f1 = z.f1 ∧ y.f2 = z.f2 ∧ y.f3.length = z.f3.length
    · obtain ⟨a0, a1, a2, a3⟩ := a0
      have loop : ∀ d i, i + d = y.f3.length → Ev (fun k => spec_EqualOptic.l0 k i y.f0 y.f1 y.f2 y.f3 z.f0 z.f1 z.f2 z.f3) (decide (y.f3.drop i = z.f3.drop i)) ∧ Ev (fun k => impl_EqualOptic.l0 k (y.f3.length : Int) i y.f0 y.f1 y.f2 y.f3 z.f0 z.f1 z.f2 z.f3) (decide (y.f3.drop i = z.f3.drop i)) := by
        intro d
        induction d with
        | zero =>
          intro i hi'
          have e : y.f3.drop i = z.f3.drop i := by rw [List.drop_of_length_le (by omega), List.drop_of_length_le (by omega)]
          simp only [e, decide_true]
          refine ⟨⟨1, fun k hk => ?_⟩, ⟨1, fun k hk => ?_⟩⟩ <;> obtain ⟨k, rfl⟩ := succ_of (show 0 < k by omega)
          · simp (disch := omega) only [spec_EqualOptic.l0, if_neg]
          · simp (disch := omega) only [impl_EqualOptic.l0, if_neg]
        | succ d ihd =>
          intro i hi'
          have b1 : i < y.f3.length := by omega
          have b2 : i < z.f3.length := by omega
          obtain ⟨⟨K3, e3⟩, ⟨K4, e4⟩⟩ := ih y.f3[i] (List.getElem_mem b1) z.f3[i]
          obtain ⟨⟨K5, e5⟩, ⟨K6, e6⟩⟩ := ihd (i + 1) (by omega)
          have es : decide (y.f3.drop i = z.f3.drop i) = decide (y.f3[i] = z.f3[i] ∧ y.f3.drop (i + 1) = z.f3.drop (i + 1)) := decide_eq_decide.mpr (lst_step y.f3 z.f3 i b1 b2)
          rw [es]
          refine ⟨⟨K3 + K5 + 1, fun k hk => ?_⟩, ⟨K4 + K6 + 1, fun k hk => ?_⟩⟩ <;> obtain ⟨k, rfl⟩ := succ_of (show 0 < k by omega)
          · simp (disch := omega) only [spec_EqualOptic.l0, rdI, if_pos, e3, Option.bind_some, w64, cast1, e5]
            by_cases h : y.f3[i] = z.f3[i] <;> simp [h]
          · simp (disch := omega) only [impl_EqualOptic.l0, rdI, if_pos, e4, Option.bind_some, w64, cast1, e6]
            by_cases h : y.f3[i] = z.f3[i] <;> simp [h]
      obtain ⟨⟨K3, e3⟩, ⟨K4, e4⟩⟩ := loop y.f3.length 0 (by omega)
      simp only [List.drop_zero, Int.natCast_zero] at e3 e4
      have hd : decide (y = z) = decide (y.f3 = z.f3) := decide_eq_decide.mpr ⟨fun h => (hi.1 h).2.2.2, fun h => hi.2 ⟨a0, a1, a2, h⟩⟩
      have hb : ((y.f3.length : Int) != (z.f3.length : Int)) = false := by simp [a3]
      have hl : y.f1.toList = z.f1.toList := by rw [a1]
      rw [hd]
      refine ⟨⟨K3 + 2, fun k hk => ?_⟩, ⟨K4 + 2, fun k hk => ?_⟩⟩ <;> obtain ⟨k, rfl⟩ : ∃ m, k = m + 2 := ⟨k - 2, by omega⟩
      · have e3' := e3 k (by omega)
        simp only [spec_EqualOptic.f, spec_EqualOptic.j0, if_pos a0, if_pos hl, if_pos a2, hb, Bool.false_eq_true, if_false]
        exact e3'
      · have e4' := e4 k (by omega)
        simp only [impl_EqualOptic.f, impl_EqualOptic.j0, if_pos a0, if_pos hl, if_pos a2, hb, Bool.false_eq_true, if_false]
        exact e4'
    · have hn : ¬ y = z := fun h => a0 (by rw [h]; simp)
      simp only [hn, decide_false]
      have hz : y.f0 = z.f0 → y.f1 = z.f1 → y.f2 = z.f2 → ((y.f3.length : Int) != (z.f3.length : Int)) = true := fun b0 b1 b2 => bne_iff_ne.mpr (fun h => a0 ⟨b0, b1, b2, by omega⟩)
      refine ⟨⟨2, fun k hk => ?_⟩, ⟨2, fun k hk => ?_⟩⟩ <;> obtain ⟨k, rfl⟩ : ∃ m, k = m + 2 := ⟨k - 2, by omega⟩
      · simp only [spec_EqualOptic.f, spec_EqualOptic.j0, if_true, toList_iff]
        by_cases b0 : y.f0 = z.f0
        · by_cases b1 : y.f1 = z.f1
          · by_cases b2 : y.f2 = z.f2
            · rw [if_pos b0, if_pos b1, if_pos b2, if_pos (hz b0 b1 b2)]
            · rw [if_pos b0, if_pos b1, if_neg b2]
          · rw [if_pos b0, if_neg b1]
        · rw [if_neg b0]
      · simp only [impl_EqualOptic.f, impl_EqualOptic.j0, if_true, toList_iff]
        by_cases b0 : y.f0 = z.f0
        · by_cases b1 : y.f1 = z.f1
          · by_cases b2 : y.f2 = z.f2
            · rw [if_pos b0, if_pos b1, if_pos b2, if_pos (hz b0 b1 b2)]
            · rw [if_pos b0, if_pos b1, if_neg b2]
          · rw [if_pos b0, if_neg b1]
        · rw [if_neg b0]

theorem and255 (n : Int) : Go.bits .and .i64 n 255 = n % 256 := by
  have h255 : (BitVec.ofInt 64 255).toNat = 2 ^ 8 - 1 := by decide
  have key : (BitVec.ofInt 64 n &&& BitVec.ofInt 64 255).toNat = (n % ((2 ^ 64 : Nat) : Int)).toNat % 2 ^ 8 := by
    rw [BitVec.toNat_and, BitVec.toNat_ofInt, h255, Nat.and_two_pow_sub_one_eq_mod]
  show IntKind.i64.wrap ((BitVec.ofInt 64 n &&& BitVec.ofInt 64 255).toNat : Nat) = n % 256
  rw [key, IntKind.wrap_i64]
  omega

theorem new_loop (l : List Int) (hl : l.length * 1 ≤ 140737488351232) (d : Nat) : ∀ (h i : Int), 0 ≤ i → i + d = l.length → ∃ z, ∀ k, d < k → spec_l1New.l0 k l h i = some (l, 0, z) := by
  induction d with
  | zero =>
    intro h i h0 h1
    refine ⟨h, fun k hk => ?_⟩
    obtain ⟨k, rfl⟩ : ∃ m, k = m + 1 := ⟨k - 1, by omega⟩
    simp only [spec_l1New.l0]
    rw [if_neg (by omega)]
  | succ d ih =>
    intro h i h0 h1
    have e : wrap64 (i + 1) = i + 1 := by unfold wrap64; omega
    by_cases h4 : i < 4000
    · obtain ⟨z, hz⟩ := ih (Go.bits .and .i64 (wrap64 ((wrap64 ((wrap64 (h * 131)) + (wrap64 (rd l i)))) + 7)) 1073741823) (i + 1) (by omega) (by omega)
      refine ⟨z, fun k hk => ?_⟩
      obtain ⟨k, rfl⟩ : ∃ m, k = m + 1 := ⟨k - 1, by omega⟩
      simp only [spec_l1New.l0]
      rw [if_pos (by omega), if_pos h4, if_pos h0, e]
      exact hz k (by omega)
    · refine ⟨h, fun k hk => ?_⟩
      obtain ⟨k, rfl⟩ : ∃ m, k = m + 1 := ⟨k - 1, by omega⟩
      simp only [spec_l1New.l0]
      rw [if_pos (by omega), if_neg h4]

theorem new_f (l : List Int) (hl : l.length * 1 ≤ 140737488351232) : ∃ z, ∀ k, l.length < k → spec_l1New.f k l = some (l, 0, z) := by
  obtain ⟨z, hz⟩ := new_loop l hl l.length (wrap64 (26583 + (l.length : Int))) 0 (by omega) (by omega)
  exact ⟨z, fun k hk => hz k hk⟩

theorem byte_f (l : List Int) (i h : Int) (h0 : 0 ≤ i) (hi : i ≤ l.length) (hl : l.length * 1 ≤ 140737488351232) : ∃ x j z, spec_l1Byte.f l i h = some (x, j, z) ∧ 0 ≤ x ∧ x ≤ 255 ∧ 0 ≤ j ∧ j ≤ l.length := by
  simp only [spec_l1Byte.f, and255]
  by_cases h4 : i < (l.length : Int)
  · have e : wrap64 (i + 1) = i + 1 := by unfold wrap64; omega
    rw [if_pos h4, if_pos h0, e]
    exact ⟨_, _, _, rfl, by omega, by omega, by omega, by omega⟩
  · rw [if_neg h4]
    exact ⟨_, _, _, rfl, by omega, by omega, h0, hi⟩

theorem below_f (l : List Int) (i h n : Int) (h0 : 0 ≤ i) (hi : i ≤ l.length) (hl : l.length * 1 ≤ 140737488351232) (hn : 0 < n) (hn' : n ≤ 256) : ∃ x j z, spec_l1Below.f l i h n = some (x, j, z) ∧ 0 ≤ x ∧ x < n ∧ 0 ≤ j ∧ j ≤ l.length := by
  obtain ⟨x, j, z, e, x0, x1, h1, h2⟩ := byte_f l i h h0 hi hl
  refine ⟨Int.tmod x n, j, z, ?_, ?_, ?_, h1, h2⟩
  · simp only [spec_l1Below.f]
    rw [if_neg (by omega), if_pos (by omega), e]
    simp only [Option.bind_some]
    rw [if_neg (by omega)]
  · rw [Int.tmod_eq_emod_of_nonneg x0]; exact Int.emod_nonneg _ (by omega)
  · rw [Int.tmod_eq_emod_of_nonneg x0]; exact Int.emod_lt_of_pos _ hn

theorem below_big (l : List Int) (i h n : Int) (h0 : 0 ≤ i) (hi : i ≤ l.length) (hl : l.length * 1 ≤ 140737488351232) (hn : 256 < n) : ∃ x j z, spec_l1Below.f l i h n = some (x, j, z) ∧ 0 ≤ j ∧ j ≤ l.length := by
  obtain ⟨x, j, z, e, _, _, h1, h2⟩ := byte_f l i h h0 hi hl
  obtain ⟨x', j', z', e', _, _, h1', h2'⟩ := byte_f l j z h1 h2 hl
  obtain ⟨x2, j2, z2, e2, _, _, h12, h22⟩ := byte_f l j' z' h1' h2' hl
  obtain ⟨x3, j3, z3, e3, _, _, h13, h23⟩ := byte_f l j2 z2 h12 h22 hl
  refine ⟨Int.tmod (wrap64 ((wrap64 ((wrap64 ((wrap64 (x * 16777216)) + (wrap64 (x' * 65536)))) + (wrap64 (x2 * 256)))) + x3)) n, j3, z3, ?_, h13, h23⟩
  simp only [spec_l1Below.f]
  rw [if_neg (by omega), if_neg (by omega), e]
  simp only [Option.bind_some]
  rw [e']
  simp only [Option.bind_some]
  rw [e2]
  simp only [Option.bind_some]
  rw [e3]
  simp only [Option.bind_some]
  rw [if_neg (by omega)]

theorem pick_f (l : List Int) (i h : Int) (h0 : 0 ≤ i) (hi : i ≤ l.length) (hl : l.length * 1 ≤ 140737488351232) (xs : List ByteArray) (hx : xs ≠ []) (hx' : xs.length ≤ 256) : ∃ s j z, spec_l1Pick.f l i h xs = some (s, j, z) ∧ s ∈ xs ∧ 0 ≤ j ∧ j ≤ l.length := by
  have hp : 0 < xs.length := List.length_pos_iff.mpr hx
  obtain ⟨x, j, z, e, x0, x1, h1, h2⟩ := below_f l i h xs.length h0 hi hl (by omega) (by omega)
  obtain ⟨n, rfl⟩ := Int.eq_ofNat_of_zero_le x0
  have hn : n < xs.length := by omega
  refine ⟨xs[n], j, z, ?_, List.getElem_mem hn, h1, h2⟩
  simp only [spec_l1Pick.f, e, Option.bind_some]
  rw [if_pos (by omega), if_pos (by omega)]
  simp [rdOf, hn]

theorem pickInt_f (l : List Int) (i h : Int) (h0 : 0 ≤ i) (hi : i ≤ l.length) (hl : l.length * 1 ≤ 140737488351232) (xs : List Int) (hx : xs ≠ []) (hx' : xs.length ≤ 256) : ∃ s j z, spec_l1PickInt.f l i h xs = some (s, j, z) ∧ s ∈ xs ∧ 0 ≤ j ∧ j ≤ l.length := by
  have hp : 0 < xs.length := List.length_pos_iff.mpr hx
  obtain ⟨x, j, z, e, x0, x1, h1, h2⟩ := below_f l i h xs.length h0 hi hl (by omega) (by omega)
  obtain ⟨n, rfl⟩ := Int.eq_ofNat_of_zero_le x0
  have hn : n < xs.length := by omega
  refine ⟨xs[n], j, z, ?_, List.getElem_mem hn, h1, h2⟩
  simp only [spec_l1PickInt.f, e, Option.bind_some]
  rw [if_pos (by omega), if_pos (by omega)]
  simp [rd, hn]

/-- A drawn optic: within bounds, and not greater than so many. -/
def Dr (n : Nat) (y : S29) : Prop := Sm y ∧ nd y ≤ n

theorem once_f (l : List Int) (i h n : Int) (h0 : 0 ≤ i) (hi : i ≤ l.length) (hl : l.length * 1 ≤ 140737488351232) (hn : 0 < n) (hn' : n ≤ 256) : ∃ b j z, spec_l1Once.f l i h n = some (b, j, z) ∧ 0 ≤ j ∧ j ≤ l.length := by
  obtain ⟨x, j, z, e, _, _, j0, j1⟩ := below_f l i h n h0 hi hl hn hn'
  exact ⟨x == 0, j, z, by simp only [spec_l1Once.f, e, Option.bind_some], j0, j1⟩

theorem leaf_f (l : List Int) (c h : Int) (h0 : 0 ≤ c) (h1 : c ≤ l.length) (hl : l.length * 1 ≤ 140737488351232) :
    ∃ (y : S29) (j z : Int), Ev (fun k => spec_l7Leaf.f k l c h) (y.f0, y.f1, y.f2, y.f3, j, z) ∧ Dr 1 y ∧ 0 ≤ j ∧ j ≤ l.length := by
  obtain ⟨x, j, z, e, x0, x1, j0, j1⟩ := below_f l c h 10 h0 h1 hl (by omega) (by omega)
  obtain ⟨q, hq⟩ : ∃ q, q = 1 + x := ⟨_, rfl⟩
  have w1 : wrap64 (1 + x) = q := by rw [w64 (by omega) (by omega), hq]
  have dr : ∀ (s : ByteArray) (a : Int), s.size ≤ 1048576 → -1000 ≤ a → a ≤ 1000 → Dr 1 (⟨q, s, a, []⟩ : S29) := fun s a hs a0 a1 => ⟨.mk _ ⟨by show _ ≤ q; omega, by show q ≤ _; omega⟩ hs ⟨by show _ ≤ a; omega, by show a ≤ _; omega⟩ (by simp) (by simp), by simp [nd, nds]⟩
  have key : ∀ b : Bool, ∃ (y : S29) (j' z' : Int), (∀ k, 1 ≤ k → spec_l7Leaf.j0 k q b l j z q (⟨#[]⟩ : ByteArray) 0 = some (y.f0, y.f1, y.f2, y.f3, j', z')) ∧ Dr 1 y ∧ 0 ≤ j' ∧ j' ≤ l.length := by
    intro b
    cases b
    · by_cases c3 : q = 3
      · obtain ⟨s, j', z', e', hm, h0', h1'⟩ := pick_f l j z j0 j1 hl [(⟨#[112]⟩ : ByteArray), (⟨#[113]⟩ : ByteArray)] (by simp) (by simp)
        refine ⟨⟨q, s, 0, []⟩, j', z', fun k hk => ?_, dr s 0 ?_ (by omega) (by omega), h0', h1'⟩
        · obtain ⟨k, rfl⟩ := succ_of (show 0 < k by omega)
          simp only [spec_l7Leaf.j0, Bool.false_eq_true, if_false, if_pos c3, e', Option.bind_some]
        · simp only [List.mem_cons, List.not_mem_nil, or_false] at hm
          rcases hm with rfl | rfl <;> decide
      · by_cases c6 : q = 6
        · obtain ⟨a, j', z', e', a0, a1, h0', h1'⟩ := below_f l j z 3 j0 j1 hl (by omega) (by omega)
          refine ⟨⟨q, ⟨#[]⟩, a, []⟩, j', z', fun k hk => ?_, dr _ a (by decide) (by omega) (by omega), h0', h1'⟩
          obtain ⟨k, rfl⟩ := succ_of (show 0 < k by omega)
          simp only [spec_l7Leaf.j0, Bool.false_eq_true, if_false, if_neg c3, if_pos c6, e', Option.bind_some]
        · by_cases c7 : q = 7
          · obtain ⟨a, j', z', e', a0, a1, h0', h1'⟩ := below_f l j z 7 j0 j1 hl (by omega) (by omega)
            refine ⟨⟨q, ⟨#[]⟩, a - 3, []⟩, j', z', fun k hk => ?_, dr _ (a - 3) (by decide) (by omega) (by omega), h0', h1'⟩
            obtain ⟨k, rfl⟩ := succ_of (show 0 < k by omega)
            have w : wrap64 (a - 3) = a - 3 := w64 (by omega) (by omega)
            simp only [spec_l7Leaf.j0, Bool.false_eq_true, if_false, if_neg c3, if_neg c6, if_pos c7, e', Option.bind_some, w]
          · refine ⟨⟨q, ⟨#[]⟩, 0, []⟩, j, z, fun k hk => ?_, dr _ 0 (by decide) (by omega) (by omega), j0, j1⟩
            obtain ⟨k, rfl⟩ := succ_of (show 0 < k by omega)
            simp only [spec_l7Leaf.j0, Bool.false_eq_true, if_false, if_neg c3, if_neg c6, if_neg c7]
    · obtain ⟨s, j', z', e', hm, h0', h1'⟩ := pick_f l j z j0 j1 hl [(⟨#[97]⟩ : ByteArray), (⟨#[98]⟩ : ByteArray)] (by simp) (by simp)
      refine ⟨⟨q, s, 0, []⟩, j', z', fun k hk => ?_, dr s 0 ?_ (by omega) (by omega), h0', h1'⟩
      · obtain ⟨k, rfl⟩ := succ_of (show 0 < k by omega)
        simp only [spec_l7Leaf.j0, if_true, e', Option.bind_some]
      · simp only [List.mem_cons, List.not_mem_nil, or_false] at hm
        rcases hm with rfl | rfl <;> decide
  by_cases c2 : q = 2
  · obtain ⟨y, j', z', e', d, h0', h1'⟩ := key (q == 2)
    refine ⟨y, j', z', ⟨1, fun k hk => ?_⟩, d, h0', h1'⟩
    simp only [spec_l7Leaf.f, e, Option.bind_some, w1, if_pos c2]
    exact e' k hk
  · obtain ⟨y, j', z', e', d, h0', h1'⟩ := key (q == 10)
    refine ⟨y, j', z', ⟨1, fun k hk => ?_⟩, d, h0', h1'⟩
    simp only [spec_l7Leaf.f, e, Option.bind_some, w1, if_neg c2]
    exact e' k hk

theorem nds_append (a : List S29) (y : S29) : nds (a ++ [y]) = nds a + nd y := by
  induction a with
  | nil => simp [nds]
  | cons x q ih => simp only [List.cons_append, nds, ih]; omega

theorem eta (y : S29) : (⟨y.f0, y.f1, y.f2, y.f3⟩ : S29) = y := by cases y; rfl

theorem any_f (l : List Int) (hl : l.length * 1 ≤ 140737488351232) (d : Nat) (hd : d ≤ 10) : ∀ (c h : Int), 0 ≤ c → c ≤ l.length →
    ∃ (y : S29) (j z : Int), Ev (fun k => spec_l7Any.f k l c h (d + 1 : Nat)) (y.f0, y.f1, y.f2, y.f3, j, z) ∧ Dr (3 ^ d) y ∧ 0 ≤ j ∧ j ≤ l.length := by
  induction d with
  | zero =>
    intro c h h0 h1
    obtain ⟨y, j, z, ⟨K, e⟩, dr, j0, j1⟩ := leaf_f l c h h0 h1 hl
    refine ⟨y, j, z, ⟨K + 2, fun k hk => ?_⟩, dr, j0, j1⟩
    obtain ⟨k, rfl⟩ : ∃ m, k = m + 2 := ⟨k - 2, by omega⟩
    simp only [spec_l7Any.f]
    rw [if_pos (by omega)]
    simp only [spec_l7Any.j0, if_true, e k (by omega), Option.bind_some]
  | succ d ih =>
    intro c h h0 h1
    obtain ⟨b, j, z, e, j0, j1⟩ := once_f l c h 3 h0 h1 hl (by omega) (by omega)
    cases b
    · obtain ⟨kd, j2, z2, e2, hm, j20, j21⟩ := pickInt_f l j z j0 j1 hl [11, 12, 12, 13] (by simp) (by simp)
      have hk : kd = 11 ∨ kd = 12 ∨ kd = 13 := by
        simp only [List.mem_cons, List.not_mem_nil, or_false] at hm; omega
      obtain ⟨n, hn, hn2⟩ : ∃ n : Nat, ar kd = n ∧ n ≤ 2 := by
        rcases hk with rfl | rfl | rfl
        · exact ⟨1, by decide, by omega⟩
        · exact ⟨2, by decide, by omega⟩
        · exact ⟨2, by decide, by omega⟩
      have e3 : ∀ k, 0 < k → spec_ArityOf.f k kd = some (n : Int) := fun k hk => by rw [ar_spec k kd hk, hn]
      have p0 : 0 < 3 ^ d := Nat.pow_pos (by omega)
      have p1 : 3 ^ d ≤ 3 ^ 10 := Nat.pow_le_pow_right (by omega) (by omega)
      have loop : ∀ m i (a : List S29) (c h : Int), i + m = n → a.length = i → (∀ z ∈ a, Sm z) → nds a ≤ i * 3 ^ d → 0 ≤ c → c ≤ l.length →
          ∃ (y : S29) (j z : Int), Ev (fun k => spec_l7Any.l0 k ((d + 1 + 1 : Nat) : Int) n i l c h kd (⟨#[]⟩ : ByteArray) 0 a) (y.f0, y.f1, y.f2, y.f3, j, z) ∧ Dr (3 ^ (d + 1)) y ∧ 0 ≤ j ∧ j ≤ l.length := by
        intro m
        induction m with
        | zero =>
          intro i a c h hi ha hs hnd h0 h1
          refine ⟨⟨kd, ⟨#[]⟩, 0, a⟩, c, h, ⟨1, fun k hk => ?_⟩, ⟨.mk _ ⟨by show _ ≤ kd; omega, by show kd ≤ _; omega⟩ (by show (0 : Nat) ≤ _; omega) ⟨by show (_ : Int) ≤ 0; omega, by show (0 : Int) ≤ _; omega⟩ (by show a.length ≤ _; omega) hs, ?_⟩, h0, h1⟩
          · obtain ⟨k, rfl⟩ := succ_of (show 0 < k by omega)
            simp (disch := omega) only [spec_l7Any.l0, if_neg]
          · have hi2 : i * 3 ^ d ≤ 2 * 3 ^ d := Nat.mul_le_mul_right _ (by omega)
            rw [Nat.pow_succ]
            show nds a + 1 ≤ _
            omega
        | succ m ihm =>
          intro i a c h hi ha hs hnd h0 h1
          obtain ⟨y, j, z, ⟨K1, e1⟩, dr, j0, j1⟩ := ih (by omega) c h h0 h1
          have ei : (i + 1) * 3 ^ d = i * 3 ^ d + 3 ^ d := by rw [Nat.add_mul, Nat.one_mul]
          obtain ⟨y', j', z', ⟨K2, e2⟩, dr', j0', j1'⟩ := ihm (i + 1) (a ++ [y]) j z (by omega) (by simp; omega) (by
            intro q hq
            rcases List.mem_append.mp hq with hq | hq
            · exact hs q hq
            · rw [List.mem_singleton.mp hq]; exact dr.1) (by rw [nds_append, ei]; have := dr.2; omega) j0 j1
          refine ⟨y', j', z', ⟨K1 + K2 + 1, fun k hk => ?_⟩, dr', j0', j1'⟩
          obtain ⟨k, rfl⟩ := succ_of (show 0 < k by omega)
          have ew : wrap64 (((d + 1 + 1 : Nat) : Int) - 1) = ((d + 1 : Nat) : Int) := by rw [w64 (by omega) (by omega)]; omega
          have el : a.length < 2513169434916 := by omega
          simp (disch := omega) only [spec_l7Any.l0, if_pos, ew, e1, Option.bind_some, w64, cast1, eta, if_pos el]
          exact e2 k (by omega)
      obtain ⟨y, j', z', ⟨K, e'⟩, dr, j0', j1'⟩ := loop n 0 [] j2 z2 (by omega) rfl (by simp) (by simp [nds]) j20 j21
      refine ⟨y, j', z', ⟨K + 3, fun k hk => ?_⟩, dr, j0', j1'⟩
      obtain ⟨k, rfl⟩ : ∃ m, k = m + 2 := ⟨k - 2, by omega⟩
      simp only [spec_l7Any.f]
      rw [if_neg (by omega), e]
      simp only [Option.bind_some, spec_l7Any.j0, Bool.false_eq_true, if_false, e2, e3 k (by omega)]
      exact e' k (by omega)
    · obtain ⟨y, j', z', ⟨K, e'⟩, dr, j0', j1'⟩ := leaf_f l j z j0 j1 hl
      have p0 : 0 < 3 ^ (d + 1) := Nat.pow_pos (by omega)
      refine ⟨y, j', z', ⟨K + 2, fun k hk => ?_⟩, ⟨dr.1, by have := dr.2; omega⟩, j0', j1'⟩
      obtain ⟨k, rfl⟩ : ∃ m, k = m + 2 := ⟨k - 2, by omega⟩
      simp only [spec_l7Any.f]
      rw [if_neg (by omega), e]
      simp only [Option.bind_some, spec_l7Any.j0, if_true, e' k (by omega)]

theorem Sm_f (y : S29) (sm : Sm y) : (-9223372036854775808 ≤ y.f0 ∧ y.f0 ≤ 9223372036854775807) ∧ y.f1.size ≤ 1048576 ∧ (-9223372036854775808 ≤ y.f2 ∧ y.f2 ≤ 9223372036854775807) ∧ y.f3.length ≤ 1048576 ∧ ∀ z ∈ y.f3, Sm z := by
  cases sm with
  | mk _ h0 h1 h2 h3 h4 => exact ⟨h0, h1, h2, h3, h4⟩

theorem bent_f (l : List Int) (hl : l.length * 1 ≤ 140737488351232) (c h : Int) (h0 : 0 ≤ c) (h1 : c ≤ l.length) :
    ∃ (y : S29) (j z : Int), Ev (fun k => spec_l7Bent.f k l c h) (y.f0, y.f1, y.f2, y.f3, j, z) ∧ Dr 100 y ∧ 0 ≤ j ∧ j ≤ l.length := by
  obtain ⟨a, j, z, e, a0, a1, j0, j1⟩ := below_f l c h 4 h0 h1 hl (by omega) (by omega)
  obtain ⟨d, rfl⟩ := Int.eq_ofNat_of_zero_le a0
  obtain ⟨y, j2, z2, ⟨K, e2⟩, dr, j20, j21⟩ := any_f l hl d (by omega) j z j0 j1
  have p : 3 ^ d ≤ 3 ^ 3 := Nat.pow_le_pow_right (by omega) (by omega)
  have ew : wrap64 (1 + (d : Int)) = ((d + 1 : Nat) : Int) := by rw [w64 (by omega) (by omega)]; omega
  obtain ⟨g0, g1, g2, g3, g4⟩ := Sm_f y dr.1
  have gn := nd_eq y
  have gd := dr.2
  have gl := nds_len y.f3
  obtain ⟨b, j3, z3, e3, b0, b1, j30, j31⟩ := below_f l j2 z2 12 j20 j21 hl (by omega) (by omega)
  have st : ∀ k, K ≤ k → ∀ r, (if b = 0 then ((spec_l1Below.f l j3 z3 15).bind fun bt => some (bt.1, y.f1, y.f2, y.f3, bt.2.1, bt.2.2)) else (if b = 1 then ((spec_l1PickInt.f l j3 z3 (([0, 1, 1000, 1001, (-1)] : List Int))).bind fun bt => some (y.f0, y.f1, bt.1, y.f3, bt.2.1, bt.2.2)) else (if b = 2 then ((spec_l1Pick.f l j3 z3 (([(⟨#[]⟩ : ByteArray), (⟨#[97]⟩ : ByteArray), (⟨#[90]⟩ : ByteArray)] : List ByteArray))).bind fun bt => some (y.f0, bt.1, y.f2, y.f3, bt.2.1, bt.2.2)) else (if b = 3 then (if y.f3.length < 2513169434916 then some (y.f0, y.f1, y.f2, y.f3 ++ [(⟨1, (⟨#[]⟩ : ByteArray), 0, ([] : List S29)⟩ : S29)], j3, z3) else none) else some (y.f0, y.f1, y.f2, y.f3, j3, z3))))) = some r → spec_l7Bent.f k l c h = some r := by
    intro k hk r hr
    simp only [spec_l7Bent.f, e, Option.bind_some, ew, e2 k hk, e3]
    exact hr
  by_cases c0 : b = 0
  · obtain ⟨q, j4, z4, e4, q0, q1, j40, j41⟩ := below_f l j3 z3 15 j30 j31 hl (by omega) (by omega)
    refine ⟨⟨q, y.f1, y.f2, y.f3⟩, j4, z4, ⟨K, fun k hk => st k hk _ ?_⟩, ⟨.mk _ ⟨by show _ ≤ q; omega, by show q ≤ _; omega⟩ g1 g2 g3 g4, by show nds y.f3 + 1 ≤ _; omega⟩, j40, j41⟩
    rw [if_pos c0, e4]; rfl
  · by_cases c1 : b = 1
    · obtain ⟨q, j4, z4, e4, hm, j40, j41⟩ := pickInt_f l j3 z3 j30 j31 hl [0, 1, 1000, 1001, (-1)] (by simp) (by simp)
      have hq : -1 ≤ q ∧ q ≤ 1001 := by simp only [List.mem_cons, List.not_mem_nil, or_false] at hm; omega
      refine ⟨⟨y.f0, y.f1, q, y.f3⟩, j4, z4, ⟨K, fun k hk => st k hk _ ?_⟩, ⟨.mk _ g0 g1 ⟨by show _ ≤ q; omega, by show q ≤ _; omega⟩ g3 g4, by show nds y.f3 + 1 ≤ _; omega⟩, j40, j41⟩
      rw [if_neg c0, if_pos c1, e4]; rfl
    · by_cases c2 : b = 2
      · obtain ⟨q, j4, z4, e4, hm, j40, j41⟩ := pick_f l j3 z3 j30 j31 hl [(⟨#[]⟩ : ByteArray), (⟨#[97]⟩ : ByteArray), (⟨#[90]⟩ : ByteArray)] (by simp) (by simp)
        have hq : q.size ≤ 1048576 := by
          simp only [List.mem_cons, List.not_mem_nil, or_false] at hm
          rcases hm with rfl | rfl | rfl <;> decide
        refine ⟨⟨y.f0, q, y.f2, y.f3⟩, j4, z4, ⟨K, fun k hk => st k hk _ ?_⟩, ⟨.mk _ g0 hq g2 g3 g4, by show nds y.f3 + 1 ≤ _; omega⟩, j40, j41⟩
        rw [if_neg c0, if_neg c1, if_pos c2, e4]; rfl
      · by_cases c3 : b = 3
        · have sl : Sm (⟨1, ⟨#[]⟩, 0, []⟩ : S29) := .mk _ ⟨by show (_ : Int) ≤ 1; omega, by show (1 : Int) ≤ _; omega⟩ (by show (0 : Nat) ≤ _; omega) ⟨by show (_ : Int) ≤ 0; omega, by show (0 : Int) ≤ _; omega⟩ (by simp) (by simp)
          refine ⟨⟨y.f0, y.f1, y.f2, y.f3 ++ [⟨1, ⟨#[]⟩, 0, []⟩]⟩, j3, z3, ⟨K, fun k hk => st k hk _ ?_⟩, ⟨.mk _ g0 g1 g2 (by show (y.f3 ++ _).length ≤ _; rw [List.length_append]; simp; omega) ?_, ?_⟩, j30, j31⟩
          · rw [if_neg c0, if_neg c1, if_neg c2, if_pos c3, if_pos (by omega)]
          · intro q hq
            rcases List.mem_append.mp hq with hq | hq
            · exact g4 q hq
            · rw [List.mem_singleton.mp hq]; exact sl
          · show nds (y.f3 ++ _) + 1 ≤ _
            rw [nds_append]; simp only [nd, nds]; omega
        · refine ⟨y, j3, z3, ⟨K, fun k hk => st k hk _ ?_⟩, ⟨dr.1, by omega⟩, j30, j31⟩
          rw [if_neg c0, if_neg c1, if_neg c2, if_neg c3]

theorem dIs_f (l : List Int) (hl : l.length * 1 ≤ 140737488351232) : ∃ y : S29, Ev (fun k => spec_DrawIsOptic.f k l) (y.f0, y.f1, y.f2, y.f3) ∧ Dr 200 y := by
  obtain ⟨z, hz⟩ := new_f l hl
  obtain ⟨y, j, h, ⟨K, e⟩, dr, j0, j1⟩ := bent_f l hl 0 z (by omega) (by omega)
  obtain ⟨b, j2, z2, e2, j20, j21⟩ := once_f l j h 8 j0 j1 hl (by omega) (by omega)
  cases b
  · refine ⟨y, ⟨K + l.length + 1, fun k hk => ?_⟩, ⟨dr.1, by have := dr.2; omega⟩⟩
    simp only [spec_DrawIsOptic.f, hz k (by omega), Option.bind_some, e k (by omega), e2, Bool.false_eq_true, if_false]
  · obtain ⟨n, j3, z3, e3, n0, n1, j30, j31⟩ := below_f l j2 z2 5 j20 j21 hl (by omega) (by omega)
    obtain ⟨m, hm⟩ : ∃ m : Nat, wrap64 (7 + n) = m := ⟨(7 + n).toNat, by rw [w64 (by omega) (by omega)]; omega⟩
    have hm2 : m ≤ 11 := by have := w64 (n := 7 + n) (by omega) (by omega); omega
    have loop : ∀ d i (y : S29), i + d = m → Dr (100 + i) y → ∃ y' : S29, Ev (fun k => spec_DrawIsOptic.l0 k m i y.f0 y.f1 y.f2 y.f3) (y'.f0, y'.f1, y'.f2, y'.f3) ∧ Dr 200 y' := by
      intro d
      induction d with
      | zero =>
        intro i y hi dr
        refine ⟨y, ⟨1, fun k hk => ?_⟩, ⟨dr.1, by have := dr.2; omega⟩⟩
        obtain ⟨k, rfl⟩ := succ_of (show 0 < k by omega)
        simp (disch := omega) only [spec_DrawIsOptic.l0, if_neg]
      | succ d ihd =>
        intro i y hi dr
        have dr' : Dr (100 + (i + 1)) (⟨11, ⟨#[]⟩, 0, [y]⟩ : S29) := ⟨.mk _ ⟨by show (_ : Int) ≤ 11; omega, by show (11 : Int) ≤ _; omega⟩ (by show (0 : Nat) ≤ _; omega) ⟨by show (_ : Int) ≤ 0; omega, by show (0 : Int) ≤ _; omega⟩ (by show (1 : Nat) ≤ _; omega) (by intro q hq; rw [List.mem_singleton.mp hq]; exact dr.1), by simp only [nd, nds]; have := dr.2; omega⟩
        obtain ⟨y', ⟨K, e'⟩, d'⟩ := ihd (i + 1) _ (by omega) dr'
        refine ⟨y', ⟨K + 1, fun k hk => ?_⟩, d'⟩
        obtain ⟨k, rfl⟩ := succ_of (show 0 < k by omega)
        simp (disch := omega) only [spec_DrawIsOptic.l0, if_pos, w64, cast1, eta]
        exact e' k (by omega)
    obtain ⟨y', ⟨K2, e'⟩, d'⟩ := loop m 0 y (by omega) ⟨dr.1, by have := dr.2; omega⟩
    refine ⟨y', ⟨K + K2 + l.length + 1, fun k hk => ?_⟩, d'⟩
    simp only [spec_DrawIsOptic.f, hz k (by omega), Option.bind_some, e k (by omega), e2, if_true, e3, hm]
    exact e' k (by omega)

theorem copy_f (y : S29) (sm : Sm y) : Ev (fun k => spec_l7Copy.f k y.f0 y.f1 y.f2 y.f3) (y.f0, y.f1, y.f2, y.f3) := by
  induction sm with
  | mk y h0 h1 h2 h3 h4 ih =>
    have loop : ∀ d i, i + d = y.f3.length → Ev (fun k => spec_l7Copy.l0 k i y.f0 y.f1 y.f2 y.f3 y.f0 y.f1 y.f2 (y.f3.take i)) (y.f0, y.f1, y.f2, y.f3) := by
      intro d
      induction d with
      | zero =>
        intro i hi
        refine ⟨1, fun k hk => ?_⟩
        obtain ⟨k, rfl⟩ := succ_of (show 0 < k by omega)
        simp (disch := omega) only [spec_l7Copy.l0, if_neg]
        rw [List.take_of_length_le (by omega)]
      | succ d ihd =>
        intro i hi
        have hlt : i < y.f3.length := by omega
        obtain ⟨K1, e1⟩ := ih y.f3[i] (List.getElem_mem hlt)
        obtain ⟨K2, e2⟩ := ihd (i + 1) (by omega)
        refine ⟨K1 + K2 + 1, fun k hk => ?_⟩
        obtain ⟨k, rfl⟩ := succ_of (show 0 < k by omega)
        have el : (y.f3.take i).length < 2513169434916 := by rw [List.length_take]; omega
        have et : y.f3.take i ++ [y.f3[i]] = y.f3.take (i + 1) := by rw [List.take_succ_eq_append_getElem hlt]
        simp (disch := omega) only [spec_l7Copy.l0, rdI, if_pos, e1, Option.bind_some, w64, cast1, if_pos el, eta, et]
        exact e2 k (by omega)
    obtain ⟨K, e⟩ := loop y.f3.length 0 (by omega)
    refine ⟨K + 1, fun k hk => ?_⟩
    obtain ⟨k, rfl⟩ := succ_of (show 0 < k by omega)
    simp only [spec_l7Copy.f]
    exact e k (by omega)

theorem dEq_f (l : List Int) (hl : l.length * 1 ≤ 140737488351232) : ∃ y q : S29, Ev (fun k => spec_DrawEqualOptic.f k l) (y.f0, y.f1, y.f2, y.f3, q.f0, q.f1, q.f2, q.f3) ∧ Dr 200 y ∧ Dr 200 q := by
  obtain ⟨z, hz⟩ := new_f l hl
  obtain ⟨y, j, h, ⟨K, e⟩, dr, j0, j1⟩ := bent_f l hl 0 z (by omega) (by omega)
  have dr' : Dr 200 y := ⟨dr.1, by have := dr.2; omega⟩
  obtain ⟨b, j2, z2, e2, j20, j21⟩ := once_f l j h 2 j0 j1 hl (by omega) (by omega)
  cases b
  · obtain ⟨q, j', h', ⟨K2, e'⟩, dq, _, _⟩ := bent_f l hl j2 z2 j20 j21
    refine ⟨y, q, ⟨K + K2 + l.length + 1, fun k hk => ?_⟩, dr', ⟨dq.1, by have := dq.2; omega⟩⟩
    simp only [spec_DrawEqualOptic.f, hz k (by omega), Option.bind_some, e k (by omega), e2, Bool.false_eq_true, if_false, e' k (by omega)]
  · obtain ⟨K2, e'⟩ := copy_f y dr.1
    refine ⟨y, y, ⟨K + K2 + l.length + 1, fun k hk => ?_⟩, dr', dr'⟩
    simp only [spec_DrawEqualOptic.f, hz k (by omega), Option.bind_some, e k (by omega), e2, if_true, e' k (by omega)]

set_option maxHeartbeats 1000000 in
theorem FnOptics : laws_FnOptics.Pure := by
  intro l0 q0 q1 q2
  by_cases hb : laws_big.f l0 = some true
  · exact ⟨1, by simp only [laws_FnOptics.f, hb, Option.bind_some, if_true]⟩
  have hb' : laws_big.f l0 = some false := by
    revert hb
    unfold laws_big.f
    cases decide ((l0.length : Int) > 1048576) <;> simp
  obtain ⟨y, ⟨K, e⟩, dr⟩ := dIs_f l0 q1
  have sm := dr.1
  have hd := dr.2
  obtain ⟨p, q, ⟨K1, e1⟩, dp1, dq1⟩ := dEq_f l0 q1
  obtain ⟨z, hz⟩ := new_f l0 q1
  obtain ⟨a, ja, za, ea, _⟩ := below_f l0 0 z 16 (by omega) (by omega) q1 (by omega) (by omega)
  obtain ⟨K2, e2⟩ := sizeI_f y sm (by omega)
  obtain ⟨-, ⟨K3, e3⟩⟩ := depth_f y sm (by omega)
  obtain ⟨⟨K4, e4⟩, ⟨K5, e5⟩⟩ := is_f y sm (by omega)
  obtain ⟨⟨K6, e6⟩, ⟨K7, e7⟩⟩ := eq_f2 p dp1.1 q
  obtain ⟨g0, g1, g2, g3, g4⟩ := Sm_f y sm
  have gn := nd_eq y
  have gp := dp_eq y
  have gle := dp_le y
  have gle2 := dps_le y.f3
  have loop : ∀ d i (s t : Nat), i + d = y.f3.length → s + nds (y.f3.drop i) = nd y → max t (dps (y.f3.drop i)) + 1 = dp y → Ev (fun k => laws_FnOptics.l0 k l0 s t i y.f0 y.f1 y.f2 y.f3) true := by
    intro d
    induction d with
    | zero =>
      intro i s t hi hs ht
      have en : y.f3.drop i = [] := List.drop_eq_nil_of_le (by omega)
      rw [en] at hs ht
      simp only [nds, dps] at hs ht
      refine ⟨K1 + K2 + K3 + K4 + K5 + K6 + K7 + l0.length + 3, fun k hk => ?_⟩
      obtain ⟨k, rfl⟩ := succ_of (show 0 < k by omega)
      show laws_FnOptics.l0 (k + 1) l0 s t i y.f0 y.f1 y.f2 y.f3 = some true
      have e1' : spec_DrawEqualOptic.f k l0 = some _ := e1 k (by omega)
      have e2' : impl_SizeOf.f k y.f0 y.f1 y.f2 y.f3 = some _ := e2 k (by omega)
      have e3' : impl_DepthOf.f k y.f0 y.f1 y.f2 y.f3 = some _ := e3 k (by omega)
      have e4' : spec_IsOptic.f k y.f0 y.f1 y.f2 y.f3 = some _ := e4 k (by omega)
      have e5' : impl_IsOptic.f k y.f0 y.f1 y.f2 y.f3 = some _ := e5 k (by omega)
      have e6' : spec_EqualOptic.f k p.f0 p.f1 p.f2 p.f3 q.f0 q.f1 q.f2 q.f3 = some _ := e6 k (by omega)
      have e7' : impl_EqualOptic.f k p.f0 p.f1 p.f2 p.f3 q.f0 q.f1 q.f2 q.f3 = some _ := e7 k (by omega)
      have e8' : spec_DrawArityOf.f k l0 = some (wrap64 (a - 1)) := by simp only [spec_DrawArityOf.f, hz k (by omega), Option.bind_some, ea]
      have e9' := ar_impl k (wrap64 (a - 1)) (by omega)
      have e10' := ar_spec k (wrap64 (a - 1)) (by omega)
      have c1 : ¬ ((i : Int) < (y.f3.length : Int)) := by omega
      have c2 : (nd y : Int) = (s : Int) := by omega
      have c3 : (dp y : Int) = wrap64 ((t : Int) + 1) := by rw [w64 (by omega) (by omega)]; omega
      rw [laws_FnOptics.l0, if_neg c1, e1', Option.bind_some, e8', Option.bind_some, e2', Option.bind_some, if_pos c2, e3', Option.bind_some, if_pos c3, e5', Option.bind_some, e4', Option.bind_some, if_pos (beq_self_eq_true _), e7', Option.bind_some, e6', Option.bind_some, if_pos (beq_self_eq_true _), e9', Option.bind_some, e10', Option.bind_some, beq_self_eq_true]
    | succ d ihd =>
      intro i s t hi hs ht
      have hlt : i < y.f3.length := by omega
      rw [nds_drop y.f3 i hlt] at hs
      rw [dps_drop y.f3 i hlt] at ht
      have hm := nds_mem y.f3 _ (List.getElem_mem hlt)
      have hdl := dp_le y.f3[i]
      obtain ⟨K8, e8⟩ := sizeI_f y.f3[i] (g4 _ (List.getElem_mem hlt)) (by omega)
      obtain ⟨-, ⟨K9, e9⟩⟩ := depth_f y.f3[i] (g4 _ (List.getElem_mem hlt)) (by omega)
      have ews : wrap64 ((s : Int) + (nd y.f3[i] : Int)) = ((s + nd y.f3[i] : Nat) : Int) := by rw [w64 (by omega) (by omega)]; omega
      have ewi : wrap64 ((i : Int) + 1) = ((i + 1 : Nat) : Int) := by rw [w64 (by omega) (by omega)]; omega
      have p1 : (i : Int) < (y.f3.length : Int) := Int.ofNat_lt.mpr hlt
      have p2 : (0 : Int) ≤ (i : Int) := Int.natCast_nonneg i
      by_cases c : dp y.f3[i] > t
      · obtain ⟨K10, e10⟩ := ihd (i + 1) (s + nd y.f3[i]) (dp y.f3[i]) (by omega) (by omega) (by omega)
        have p3 : (dp y.f3[i] : Int) > (t : Int) := Int.ofNat_lt.mpr c
        refine ⟨K8 + K9 + K10 + 1, fun k hk => ?_⟩
        obtain ⟨k, rfl⟩ := succ_of (show 0 < k by omega)
        have e8' : impl_SizeOf.f k y.f3[i].f0 y.f3[i].f1 y.f3[i].f2 y.f3[i].f3 = some _ := e8 k (by omega)
        have e9' : impl_DepthOf.f k y.f3[i].f0 y.f3[i].f1 y.f3[i].f2 y.f3[i].f3 = some _ := e9 k (by omega)
        show laws_FnOptics.l0 (k + 1) l0 s t i y.f0 y.f1 y.f2 y.f3 = some true
        rw [laws_FnOptics.l0, if_pos p1, if_pos p2, rdI y.f3 i hlt, e8', Option.bind_some, e9', Option.bind_some, if_pos p3, Option.bind_some, ews, ewi]
        exact e10 k (by omega)
      · obtain ⟨K10, e10⟩ := ihd (i + 1) (s + nd y.f3[i]) t (by omega) (by omega) (by omega)
        have p3 : ¬ (dp y.f3[i] : Int) > (t : Int) := fun h => c (Int.ofNat_lt.mp h)
        refine ⟨K8 + K9 + K10 + 1, fun k hk => ?_⟩
        obtain ⟨k, rfl⟩ := succ_of (show 0 < k by omega)
        have e8' : impl_SizeOf.f k y.f3[i].f0 y.f3[i].f1 y.f3[i].f2 y.f3[i].f3 = some _ := e8 k (by omega)
        have e9' : impl_DepthOf.f k y.f3[i].f0 y.f3[i].f1 y.f3[i].f2 y.f3[i].f3 = some _ := e9 k (by omega)
        show laws_FnOptics.l0 (k + 1) l0 s t i y.f0 y.f1 y.f2 y.f3 = some true
        rw [laws_FnOptics.l0, if_pos p1, if_pos p2, rdI y.f3 i hlt, e8', Option.bind_some, e9', Option.bind_some, if_neg p3, ews, ewi]
        exact e10 k (by omega)
  obtain ⟨K10, e10⟩ := loop y.f3.length 0 1 0 (by omega) (by simp only [List.drop_zero]; omega) (by simp only [List.drop_zero]; omega)
  refine ⟨K + K10 + 1, ?_⟩
  simp only [laws_FnOptics.f, hb', Option.bind_some, Bool.false_eq_true, if_false, e _ (show K ≤ K + K10 + 1 by omega)]
  have e10' : laws_FnOptics.l0 (K + K10 + 1) l0 ((1 : Nat) : Int) ((0 : Nat) : Int) ((0 : Nat) : Int) y.f0 y.f1 y.f2 y.f3 = some true := e10 _ (by omega)
  simp only [Int.natCast_zero, Int.natCast_one] at e10'
  exact e10'

end Go.Proofs.Ytibcndpadbipmaa.Pure
