/- The program's FormatOptic answers as the reference's and leaves its argument alone, for every optic: no condition. -/
import Derived.Test.YtibcndpadbipmaaXEx26
import Derived.Test.YtibcndpadbipmaaXExk
namespace Go.Proofs.Ytibcndpadbipmaa.Pure
open Go.RowKit Go.Proofs.Ytibcndpadbipmaa.XE Go.Proofs.YtibcndpadbipmaaW.PrintWords Go.Proofs.YtibcndpadbipmaaW.PrintLast

set_option linter.unusedSimpArgs false
set_option linter.unusedVariables false

theorem w64 {n : Int} (h : -9223372036854775808 ≤ n) (h' : n ≤ 9223372036854775807) : wrap64 n = n := by unfold wrap64; omega
theorem cast1 (i : Nat) : (i : Int) + 1 = ((i + 1 : Nat) : Int) := by omega
theorem succ_of {d k : Nat} (h : d < k) : ∃ m, k = m + 1 := ⟨k - 1, by omega⟩

theorem rdI (l : List S29) (i : Nat) (h : i < l.length) : rd_T29 l (i : Int) = l[i] := by simp [rd_T29, h]
theorem rdL (l : List S24) (i : Nat) (h : i < l.length) : rd_T24 l (i : Int) = l[i] := by simp [rd_T24, h]

mutual
/-- How many optics an optic holds, itself among them. -/
def nd : S29 → Nat
  | ⟨_, _, _, l⟩ => nds l + 1
def nds : List S29 → Nat
  | [] => 0
  | x :: xs => nd x + nds xs
end

theorem nd_eq (y : S29) : nd y = nds y.f3 + 1 := by cases y; simp only [nd]
theorem nds_drop (l : List S29) (i : Nat) (h : i < l.length) : nds (l.drop i) = nd l[i] + nds (l.drop (i + 1)) := by
  rw [List.drop_eq_getElem_cons h, nds]
theorem nds_len (l : List S29) : l.length ≤ nds l := by
  induction l with
  | nil => simp [nds]
  | cons x xs ih => have := nd_eq x; simp only [nds, List.length_cons]; omega
theorem nds_mem (l : List S29) (z : S29) (h : z ∈ l) : nd z ≤ nds l := by
  induction l with
  | nil => simp at h
  | cons x xs ih =>
    simp only [nds]
    rcases List.mem_cons.1 h with rfl | h
    · omega
    · have := ih h; omega

/-- An optic within bounds, all the way down. -/
inductive Sm : S29 → Prop
  | mk (y : S29) (h0 : -9223372036854775808 ≤ y.f0 ∧ y.f0 ≤ 9223372036854775807) (h1 : y.f1.size ≤ 1048576) (h2 : -9223372036854775808 ≤ y.f2 ∧ y.f2 ≤ 9223372036854775807) (h3 : y.f3.length ≤ 1048576) (h4 : ∀ z ∈ y.f3, Sm z) : Sm y

theorem wf64 {n : Int} (h : (Lit.int .i64 n).wf = true) : -9223372036854775808 ≤ n ∧ n ≤ 9223372036854775807 := by
  simpa [Lit.wf, IntKind.min, IntKind.max, IntKind.signed, IntKind.bits] using h

/-- The argument is weighed; if it is not too heavy, what it is turned into is within bounds. -/
theorem sz_to (x : S24) (ok : Ok24 x) : ∀ left : Int, 0 ≤ left → left ≤ 1048576 →
    ∃ r, Ev (fun k => laws_szOptic.f k x.f0 x.f1 x.f2 x.f3 left) r ∧ (r < 0 ∨ 0 ≤ r ∧ ∃ y, Sm y ∧ Ev (fun k => laws_toOptic.f k x.f0 x.f1 x.f2 x.f3) (y.f0, y.f1, y.f2, y.f3) ∧ (nd y : Int) + r ≤ left + 1) := by
  induction ok with
  | mk x h0 h1 h2 h3 h4 ih =>
    intro left hl0 hl1
    simp only [maxLen] at h1 h3
    by_cases hneg : left - (x.f1.size : Int) < 0
    · refine ⟨-1, ⟨1, fun k hk => ?_⟩, .inl (by omega)⟩
      obtain ⟨k, rfl⟩ := succ_of (show 0 < k by omega)
      simp (disch := omega) only [laws_szOptic.f, w64, if_pos]
    · by_cases hneg2 : left - (x.f1.size : Int) - (x.f3.length : Int) < 0
      · refine ⟨-1, ⟨2, fun k hk => ?_⟩, .inl (by omega)⟩
        obtain ⟨k, rfl⟩ : ∃ m, k = m + 2 := ⟨k - 2, by omega⟩
        simp (disch := omega) only [laws_szOptic.f, laws_szOpticS.f, w64, if_pos, if_neg, Option.bind_some]
      · have loop : ∀ d i (left : Int), i + d = x.f3.length → 0 ≤ left → left ≤ 1048576 → ∃ r, Ev (fun k => laws_szOpticS.l0 k x.f3 left i) r ∧ (r < 0 ∨ 0 ≤ r ∧ ∃ ys : List S29, ys.length = d ∧ (∀ z ∈ ys, Sm z) ∧ (nds ys : Int) + r ≤ left + d ∧
            ∀ p : List S29, p.length = i → Ev (fun k => laws_toOpticS.l0 k x.f3 (p ++ List.replicate d z29) i) (p ++ ys)) := by
          intro d
          induction d with
          | zero =>
            intro i left hi g0 g1
            refine ⟨left, ⟨1, fun k hk => ?_⟩, .inr ⟨g0, [], rfl, by simp, by simp [nds], fun p hp => ⟨1, fun k hk => ?_⟩⟩⟩ <;> obtain ⟨k, rfl⟩ := succ_of (show 0 < k by omega)
            · simp (disch := omega) only [laws_szOpticS.l0, if_neg]
            · simp (disch := omega) only [laws_toOpticS.l0, if_neg]; simp
          | succ d ihd =>
            intro i left hi g0 g1
            have hlt : i < x.f3.length := by omega
            obtain ⟨r1, ⟨K1, e1⟩, hr1⟩ := ih x.f3[i] (List.getElem_mem hlt) left g0 g1
            rcases hr1 with hr1 | ⟨hr1, y, sm, ⟨K2, e2⟩, hn⟩
            · refine ⟨-1, ⟨K1 + 1, fun k hk => ?_⟩, .inl (by omega)⟩
              obtain ⟨k, rfl⟩ := succ_of (show 0 < k by omega)
              simp (disch := omega) only [laws_szOpticS.l0, rdL, if_pos, e1, Option.bind_some]
            · have hy := nd_eq y
              obtain ⟨r, ⟨K3, e3⟩, hr⟩ := ihd (i + 1) r1 (by omega) hr1 (by omega)
              refine ⟨r, ⟨K1 + K3 + 1, fun k hk => ?_⟩, ?_⟩
              · obtain ⟨k, rfl⟩ := succ_of (show 0 < k by omega)
                simp (disch := omega) only [laws_szOpticS.l0, rdL, if_pos, if_neg, e1, Option.bind_some, w64, cast1, e3]
              · rcases hr with hr | ⟨hr, ys, hlen, hsm, hnd, hto⟩
                · exact .inl hr
                · refine .inr ⟨hr, y :: ys, by simp [hlen], ?_, ?_, fun p hp => ?_⟩
                  · intro z hz
                    rcases List.mem_cons.1 hz with rfl | hz
                    · exact sm
                    · exact hsm z hz
                  · simp only [nds]; omega
                  · obtain ⟨K4, e4⟩ := hto (p ++ [y]) (by simp [hp])
                    refine ⟨K2 + K4 + 1, fun k hk => ?_⟩
                    obtain ⟨k, rfl⟩ := succ_of (show 0 < k by omega)
                    have hq : (i : Int) < ((p ++ List.replicate (d + 1) z29).length : Int) := by simp; omega
                    have es : (p ++ List.replicate (d + 1) z29).set i y = (p ++ [y]) ++ List.replicate d z29 := by
                      rw [List.set_append_right _ _ (by omega), hp, Nat.sub_self, List.replicate_succ, List.set_cons_zero, List.append_assoc]; rfl
                    have ey : (⟨y.f0, y.f1, y.f2, y.f3⟩ : S29) = y := by cases y; rfl
                    simp (disch := omega) only [laws_toOpticS.l0, rdL, if_pos, e2, Option.bind_some, w64, cast1, Int.toNat_natCast, if_pos hq, ey, es, e4]
                    simp
        obtain ⟨r, ⟨K1, e1⟩, hr⟩ := loop x.f3.length 0 (left - (x.f1.size : Int) - (x.f3.length : Int)) (by omega) (by omega) (by omega)
        rcases hr with hr | ⟨hr, ys, hlen, hsm, hnd, hto⟩
        · refine ⟨-1, ⟨K1 + 2, fun k hk => ?_⟩, .inl (by omega)⟩
          obtain ⟨k, rfl⟩ : ∃ m, k = m + 2 := ⟨k - 2, by omega⟩
          have e1' := e1 k (by omega)
          simp only [Int.natCast_zero] at e1'
          simp (disch := omega) only [laws_szOptic.f, laws_szOpticS.f, w64, if_neg, if_pos, e1', Option.bind_some]
        · refine ⟨r, ⟨K1 + 2, fun k hk => ?_⟩, .inr ⟨hr, ⟨x.f0, x.f1, x.f2, ys⟩, ?_, ?_, ?_⟩⟩
          · obtain ⟨k, rfl⟩ : ∃ m, k = m + 2 := ⟨k - 2, by omega⟩
            have e1' := e1 k (by omega)
            simp only [Int.natCast_zero] at e1'
            simp (disch := omega) only [laws_szOptic.f, laws_szOpticS.f, w64, if_neg, e1', Option.bind_some]
          · exact .mk _ (wf64 h0) (by show x.f1.size ≤ _; omega) (wf64 h2) (by show ys.length ≤ _; omega) hsm
          · obtain ⟨K2, e2⟩ := hto [] rfl
            refine ⟨K2 + 2, fun k hk => ?_⟩
            obtain ⟨k, rfl⟩ : ∃ m, k = m + 2 := ⟨k - 2, by omega⟩
            have e2' := e2 k (by omega)
            simp only [Int.natCast_zero, List.nil_append] at e2'
            simp (disch := omega) only [laws_toOptic.f, laws_toOpticS.f, if_pos, Int.toNat_natCast, e2', Option.bind_some]
          · simp only [nd]; omega

theorem eq_self (y : S29) (sm : Sm y) : Ev (fun k => laws_eqOptic.f k y.f0 y.f1 y.f2 y.f3 y.f0 y.f1 y.f2 y.f3) true := by
  induction sm with
  | mk y h0 h1 h2 h3 h4 ih =>
    have loop : ∀ d i, i + d = y.f3.length → Ev (fun k => laws_eqOpticS.l0 k y.f3 y.f3 i) true := by
      intro d
      induction d with
      | zero =>
        intro i hi
        refine ⟨1, fun k hk => ?_⟩
        obtain ⟨k, rfl⟩ := succ_of (show 0 < k by omega)
        simp (disch := omega) only [laws_eqOpticS.l0, if_neg]
      | succ d ihd =>
        intro i hi
        have hlt : i < y.f3.length := by omega
        obtain ⟨K1, e1⟩ := ih y.f3[i] (List.getElem_mem hlt)
        obtain ⟨K2, e2⟩ := ihd (i + 1) (by omega)
        refine ⟨K1 + K2 + 1, fun k hk => ?_⟩
        obtain ⟨k, rfl⟩ := succ_of (show 0 < k by omega)
        simp (disch := omega) only [laws_eqOpticS.l0, rdI, if_pos, e1, Option.bind_some, w64, cast1, e2, if_true]
    obtain ⟨K, e⟩ := loop y.f3.length 0 (by omega)
    refine ⟨K + 2, fun k hk => ?_⟩
    obtain ⟨k, rfl⟩ : ∃ m, k = m + 2 := ⟨k - 2, by omega⟩
    have e' := e k (by omega)
    simp only [Int.natCast_zero] at e'
    simp only [laws_eqOptic.f, laws_eqOpticS.f, if_true, e', Option.bind_some]

theorem size_f (y : S29) (sm : Sm y) (hn : nd y ≤ 1048577) : Ev (fun k => spec_SizeOf.f k y.f0 y.f1 y.f2 y.f3) (nd y) ∧ Ev (fun k => impl_SizeOf.f k y.f0 y.f1 y.f2 y.f3) (nd y) := by
  induction sm with
  | mk y h0 h1 h2 h3 h4 ih =>
    have he := nd_eq y
    have loop : ∀ d i (a : Int), i + d = y.f3.length → 0 ≤ a → a + nds (y.f3.drop i) ≤ 1048577 → Ev (fun k => spec_SizeOf.l0 k a i y.f0 y.f1 y.f2 y.f3) (a + nds (y.f3.drop i)) ∧ Ev (fun k => impl_SizeOf.l0 k a y.f3 y.f3.length i) (a + nds (y.f3.drop i)) := by
      intro d
      induction d with
      | zero =>
        intro i a hi ha hb
        have e0 : (nds (y.f3.drop i) : Int) = 0 := by rw [List.drop_of_length_le (by omega)]; simp [nds]
        rw [e0, Int.add_zero]
        refine ⟨⟨1, fun k hk => ?_⟩, ⟨1, fun k hk => ?_⟩⟩ <;> obtain ⟨k, rfl⟩ := succ_of (show 0 < k by omega)
        · simp (disch := omega) only [spec_SizeOf.l0, if_neg]
        · simp (disch := omega) only [impl_SizeOf.l0, if_neg]
      | succ d ihd =>
        intro i a hi ha hb
        have hlt : i < y.f3.length := by omega
        rw [nds_drop y.f3 i hlt] at hb ⊢
        have hm := nds_mem y.f3 _ (List.getElem_mem hlt)
        obtain ⟨⟨K1, e1⟩, ⟨K2, e2⟩⟩ := ih y.f3[i] (List.getElem_mem hlt) (by omega)
        obtain ⟨⟨K3, e3⟩, ⟨K4, e4⟩⟩ := ihd (i + 1) (a + nd y.f3[i]) (by omega) (by omega) (by omega)
        have ea : a + ((nd y.f3[i] + nds (y.f3.drop (i + 1)) : Nat) : Int) = a + nd y.f3[i] + nds (y.f3.drop (i + 1)) := by omega
        rw [ea]
        refine ⟨⟨K1 + K3 + 1, fun k hk => ?_⟩, ⟨K2 + K4 + 1, fun k hk => ?_⟩⟩ <;> obtain ⟨k, rfl⟩ := succ_of (show 0 < k by omega)
        · simp (disch := omega) only [spec_SizeOf.l0, rdI, if_pos, e1, Option.bind_some, w64, cast1, e3]
        · simp (disch := omega) only [impl_SizeOf.l0, rdI, if_pos, e2, Option.bind_some, w64, cast1, e4]
    obtain ⟨⟨K3, e3⟩, ⟨K4, e4⟩⟩ := loop y.f3.length 0 1 (by omega) (by omega) (by simp only [List.drop_zero]; omega)
    have ea : (1 : Int) + nds (y.f3.drop 0) = nd y := by simp only [List.drop_zero]; omega
    rw [ea] at e3 e4
    refine ⟨⟨K3 + 1, fun k hk => ?_⟩, ⟨K4 + 1, fun k hk => ?_⟩⟩ <;> obtain ⟨k, rfl⟩ := succ_of (show 0 < k by omega)
    · simp only [spec_SizeOf.f]; exact e3 k (by omega)
    · simp only [impl_SizeOf.f]; exact e4 k (by omega)


mutual
/-- How deep an optic is. -/
def dp : S29 → Nat
  | ⟨_, _, _, l⟩ => dps l + 1
def dps : List S29 → Nat
  | [] => 0
  | x :: xs => max (dp x) (dps xs)
end

theorem dp_eq (y : S29) : dp y = dps y.f3 + 1 := by cases y; simp only [dp]
theorem dps_drop (l : List S29) (i : Nat) (h : i < l.length) : dps (l.drop i) = max (dp l[i]) (dps (l.drop (i + 1))) := by
  rw [List.drop_eq_getElem_cons h, dps]
mutual
theorem dp_le : ∀ y : S29, dp y ≤ nd y
  | ⟨a, b, c, l⟩ => by simp only [dp, nd]; have := dps_le l; omega
theorem dps_le : ∀ l : List S29, dps l ≤ nds l
  | [] => by simp [dps, nds]
  | x :: xs => by simp only [dps, nds]; have := dp_le x; have := dps_le xs; omega
end

theorem mx_nat (a b : Nat) : mx (a : Int) (b : Int) = ((max a b : Nat) : Int) := by unfold mx; split <;> omega

theorem depth_f (y : S29) (sm : Sm y) (hn : nd y ≤ 1048577) : Ev (fun k => spec_DepthOf.f k y.f0 y.f1 y.f2 y.f3) (dp y) ∧ Ev (fun k => impl_DepthOf.f k y.f0 y.f1 y.f2 y.f3) (dp y) := by
  induction sm with
  | mk y h0 h1 h2 h3 h4 ih =>
    have he := nd_eq y
    have hd := dp_eq y
    have hle := dp_le y
    have loop : ∀ d i (a : Nat), i + d = y.f3.length → a ≤ 1048577 → Ev (fun k => spec_DepthOf.l0 k a i y.f0 y.f1 y.f2 y.f3) ((max a (dps (y.f3.drop i)) + 1 : Nat) : Int) ∧ Ev (fun k => impl_DepthOf.l0 k a y.f3 y.f3.length i) ((max a (dps (y.f3.drop i)) + 1 : Nat) : Int) := by
      intro d
      induction d with
      | zero =>
        intro i a hi ha
        have e0 : dps (y.f3.drop i) = 0 := by rw [List.drop_of_length_le (by omega)]; simp [dps]
        have e1 : max a (dps (y.f3.drop i)) + 1 = a + 1 := by omega
        rw [e1]
        refine ⟨⟨1, fun k hk => ?_⟩, ⟨1, fun k hk => ?_⟩⟩ <;> obtain ⟨k, rfl⟩ := succ_of (show 0 < k by omega)
        · simp (disch := omega) only [spec_DepthOf.l0, if_neg, w64, cast1]
        · simp (disch := omega) only [impl_DepthOf.l0, if_neg, w64, cast1]
      | succ d ihd =>
        intro i a hi ha
        have hlt : i < y.f3.length := by omega
        have hm := nds_mem y.f3 _ (List.getElem_mem hlt)
        have hz := dp_le y.f3[i]
        rw [dps_drop y.f3 i hlt]
        obtain ⟨⟨K1, e1⟩, ⟨K2, e2⟩⟩ := ih y.f3[i] (List.getElem_mem hlt) (by omega)
        obtain ⟨⟨K3, e3⟩, ⟨K4, e4⟩⟩ := ihd (i + 1) (max a (dp y.f3[i])) (by omega) (by omega)
        have ea : max a (max (dp y.f3[i]) (dps (y.f3.drop (i + 1)))) = max (max a (dp y.f3[i])) (dps (y.f3.drop (i + 1))) := by omega
        rw [ea]
        refine ⟨⟨K1 + K3 + 1, fun k hk => ?_⟩, ⟨K2 + K4 + 1, fun k hk => ?_⟩⟩ <;> obtain ⟨k, rfl⟩ := succ_of (show 0 < k by omega)
        · have em : spec_l1Max.f (a : Int) (dp y.f3[i] : Int) = some ((max a (dp y.f3[i]) : Nat) : Int) := by
            unfold spec_l1Max.f; split <;> congr 1 <;> omega
          simp (disch := omega) only [spec_DepthOf.l0, rdI, if_pos, e1, Option.bind_some, em, w64, cast1, e3]
        · simp (disch := omega) only [impl_DepthOf.l0, rdI, if_pos, e2, Option.bind_some, mx_nat, w64, cast1, e4]
    obtain ⟨⟨K3, e3⟩, ⟨K4, e4⟩⟩ := loop y.f3.length 0 0 (by omega) (by omega)
    have ea : max 0 (dps (y.f3.drop 0)) + 1 = dp y := by simp only [List.drop_zero]; omega
    rw [ea] at e3 e4
    refine ⟨⟨K3 + 1, fun k hk => ?_⟩, ⟨K4 + 1, fun k hk => ?_⟩⟩ <;> obtain ⟨k, rfl⟩ := succ_of (show 0 < k by omega)
    · simp only [spec_DepthOf.f]; exact e3 k (by omega)
    · simp only [impl_DepthOf.f]; exact e4 k (by omega)

/-- May this byte stand at this place of a name? -/
def okb (s : ByteArray) (i : Int) : Bool := if 97 ≤ bt s i ∧ bt s i ≤ 122 then true else if i = 0 then false else decide (48 ≤ bt s i ∧ bt s i ≤ 57)

/-- So many bytes from a place on may stand in a name. -/
def okn (s : ByteArray) : Nat → Int → Bool
  | 0, _ => true
  | d + 1, i => okb s i && okn s d (i + 1)

theorem byte_ok (s : ByteArray) (i : Int) : impl_nameByte.f (bt s i) (i == 0) = some (okb s i) := by
  unfold impl_nameByte.f okb
  by_cases h0 : i = 0
  · subst h0
    by_cases h1 : bt s 0 ≥ 97 <;> by_cases h2 : bt s 0 ≤ 122 <;> simp [h1, h2]
  · by_cases h1 : bt s i ≥ 97 <;> by_cases h2 : bt s i ≤ 122 <;> by_cases h3 : bt s i ≥ 48 <;> by_cases h4 : bt s i ≤ 57 <;> first | (exfalso; omega) | simp [h0, h1, h2, h3, h4]

theorem okb_ite (s : ByteArray) (i : Int) : (if bt s i ≥ 97 then (if bt s i ≤ 122 then true else (if i = 0 then false else (if bt s i < 48 then false else (if bt s i > 57 then false else true)))) else (if i = 0 then false else (if bt s i < 48 then false else (if bt s i > 57 then false else true)))) = okb s i := by
  unfold okb
  by_cases h2 : bt s i ≥ 97 <;> by_cases h3 : bt s i ≤ 122 <;> by_cases h5 : bt s i < 48 <;> by_cases h6 : bt s i > 57 <;> by_cases h4 : i = 0 <;> first | (exfalso; omega) | (have e1 : 48 ≤ bt s i := by omega) | skip
  all_goals first | (have e2 : ¬ 48 ≤ bt s i := by omega) | skip
  all_goals first | (have e3 : bt s i ≤ 57 := by omega) | (have e3 : ¬ bt s i ≤ 57 := by omega)
  all_goals simp [*]

theorem name_spec_loop (s : ByteArray) (hn : s.size ≤ 140737488351232) (d : Nat) : ∀ (k : Nat) (i : Int), 0 ≤ i → i + d = s.size → d < k →
    spec_IsName.l0 k s i = some (okn s d i && (decide (1 ≤ s.size) && decide (s.size ≤ 4))) := by
  induction d with
  | zero =>
    intro k i h0 h1 hk
    obtain ⟨k, rfl⟩ := succ_of hk
    simp only [spec_IsName.l0, spec_l1In.f]
    rw [if_neg (by omega)]
    have e : decide ((s.size : Int) ≤ 4) = decide (s.size ≤ 4) := decide_eq_decide.mpr (by omega)
    by_cases h : (s.size : Int) ≥ 1
    · have h' : 1 ≤ s.size := by omega
      rw [if_pos h, e]; simp [h', okn]
    · have h' : s.size = 0 := by omega
      rw [if_neg h]; simp [h', okn]
  | succ d ih =>
    intro k i h0 h1 hk
    obtain ⟨k, rfl⟩ := succ_of hk
    have hi := ih k (i + 1) (by omega) (by omega) (by omega)
    simp (disch := omega) only [spec_IsName.l0, if_pos, w64]
    rw [hi]
    simp only [okn]
    rw [← okb_ite]
    repeat' split
    all_goals first | (exfalso; omega) | simp_all

theorem name_impl_loop (s : ByteArray) (hn : s.size ≤ 140737488351232) (d : Nat) : ∀ (k : Nat) (i : Int), 0 ≤ i → i + d = s.size → d < k →
    impl_IsName.l0 k s (s.size : Int) i = some (okn s d i) := by
  induction d with
  | zero =>
    intro k i h0 h1 hk
    obtain ⟨k, rfl⟩ := succ_of hk
    simp (disch := omega) only [impl_IsName.l0, if_neg, okn]
  | succ d ih =>
    intro k i h0 h1 hk
    obtain ⟨k, rfl⟩ := succ_of hk
    have hi := ih k (i + 1) (by omega) (by omega) (by omega)
    simp (disch := omega) only [impl_IsName.l0, if_pos, w64, byte_ok]
    rw [hi]
    simp only [okn, Option.bind_some]
    cases okb s i <;> simp

/-- Is this a name? -/
def nmok (s : ByteArray) : Bool := okn s s.size 0 && (decide (1 ≤ s.size) && decide (s.size ≤ 4))

theorem name_spec (s : ByteArray) (hn : s.size ≤ 140737488351232) (k : Nat) (hk : s.size < k) : spec_IsName.f k s = some (nmok s) :=
  name_spec_loop s hn s.size k 0 (by omega) (by omega) hk

theorem name_impl (s : ByteArray) (hn : s.size ≤ 140737488351232) (k : Nat) (hk : s.size + 1 < k) : impl_IsName.f k s = some (nmok s) := by
  obtain ⟨k, rfl⟩ := succ_of hk
  have hi := name_impl_loop s hn s.size k 0 (by omega) (by omega) (by omega)
  unfold nmok
  simp only [impl_IsName.f, impl_IsName.j0, hi]
  by_cases h : (s.size : Int) = 0
  · have h' : s.size = 0 := by omega
    rw [if_pos h]; simp [h']
  · have h' : 1 ≤ s.size := by omega
    rw [if_neg h]
    by_cases h4 : (s.size : Int) > 4
    · have h4' : ¬ s.size ≤ 4 := by omega
      simp [h4, h4']
    · have h4' : s.size ≤ 4 := by omega
      simp [h', h4']; omega

theorem nmok_empty : nmok ⟨#[]⟩ = false := by decide

theorem nmok_size {s : ByteArray} (h : nmok s = true) : s.size ≤ 4 := by
  unfold nmok at h
  simp at h
  omega

theorem left_f (y : S29) (sm : Sm y) (hn : nd y ≤ 1048577) : ∀ left : Int, 0 ≤ left → left ≤ 1048576 → ∃ r, Ev (fun k => spec_l7Left.f k y.f0 y.f1 y.f2 y.f3 left) r ∧ r ≤ 1048576 ∧ ((nd y : Int) ≤ left → r = left - nd y) ∧ (left < (nd y : Int) → r < 0) := by
  induction sm with
  | mk y h0 h1 h2 h3 h4 ih =>
    intro left g0 g1
    have he := nd_eq y
    have loop : ∀ d i (a : Int), i + d = y.f3.length → -1 ≤ a → a ≤ 1048576 → ∃ r, Ev (fun k => spec_l7Left.l0 k a i y.f0 y.f1 y.f2 y.f3) r ∧ r ≤ 1048576 ∧ ((nds (y.f3.drop i) : Int) ≤ a → r = a - nds (y.f3.drop i)) ∧ (a < (nds (y.f3.drop i) : Int) → r < 0) := by
      intro d
      induction d with
      | zero =>
        intro i a hi ha hb
        have e0 : (nds (y.f3.drop i) : Int) = 0 := by rw [List.drop_of_length_le (by omega)]; simp [nds]
        rw [e0]
        refine ⟨a, ⟨1, fun k hk => ?_⟩, hb, fun _ => by omega, fun h => h⟩
        obtain ⟨k, rfl⟩ := succ_of (show 0 < k by omega)
        simp (disch := omega) only [spec_l7Left.l0, if_neg]
      | succ d ihd =>
        intro i a hi ha hb
        have hlt : i < y.f3.length := by omega
        rw [nds_drop y.f3 i hlt]
        have hm := nds_mem y.f3 _ (List.getElem_mem hlt)
        have hp := nd_eq y.f3[i]
        by_cases hneg : a < 0
        · refine ⟨a, ⟨1, fun k hk => ?_⟩, hb, fun _ => by omega, fun _ => hneg⟩
          obtain ⟨k, rfl⟩ := succ_of (show 0 < k by omega)
          simp (disch := omega) only [spec_l7Left.l0, if_pos, if_neg]
        · obtain ⟨r1, ⟨K1, e1⟩, hb1, q1, q2⟩ := ih y.f3[i] (List.getElem_mem hlt) (by omega) a (by omega) hb
          by_cases hr : (nd y.f3[i] : Int) ≤ a
          · have hr1 := q1 hr
            obtain ⟨r, ⟨K3, e3⟩, hb3, q3, q4⟩ := ihd (i + 1) r1 (by omega) (by omega) hb1
            refine ⟨r, ⟨K1 + K3 + 1, fun k hk => ?_⟩, hb3, fun h => by rw [q3 (by omega)]; omega, fun h => q4 (by omega)⟩
            obtain ⟨k, rfl⟩ := succ_of (show 0 < k by omega)
            simp (disch := omega) only [spec_l7Left.l0, rdI, if_pos, e1, Option.bind_some, w64, cast1, e3]
          · have hr1 := q2 (by omega)
            refine ⟨r1, ⟨K1 + 2, fun k hk => ?_⟩, hb1, fun h => by omega, fun _ => hr1⟩
            obtain ⟨k, rfl⟩ : ∃ m, k = m + 2 := ⟨k - 2, by omega⟩
            have e1' := e1 (k + 1) (by omega)
            simp (disch := omega) only [spec_l7Left.l0, rdI, if_pos, e1', Option.bind_some, w64, cast1, if_neg, ite_self]
    obtain ⟨r, ⟨K3, e3⟩, hb3, q3, q4⟩ := loop y.f3.length 0 (left - 1) (by omega) (by omega) (by omega)
    rw [List.drop_zero] at q3 q4
    refine ⟨r, ⟨K3 + 1, fun k hk => ?_⟩, hb3, fun h => by rw [q3 (by omega)]; omega, fun h => q4 (by omega)⟩
    obtain ⟨k, rfl⟩ := succ_of (show 0 < k by omega)
    have e3' := e3 k (by omega)
    simp only [Int.natCast_zero] at e3'
    simp (disch := omega) only [spec_l7Left.f, w64, e3']

/-- How many arguments a kind of optic takes. -/
def ar (k : Int) : Int := if k < 1 ∨ 13 < k then -1 else if k = 11 then 1 else if k = 12 ∨ k = 13 then 2 else 0

theorem ar_spec (k : Nat) (a : Int) (hk : 0 < k) : spec_ArityOf.f k a = some (ar a) := by
  obtain ⟨k, rfl⟩ := succ_of hk
  simp only [spec_ArityOf.f, spec_ArityOf.j0, spec_l1In.f, ar]
  by_cases h1 : a = 11
  · subst h1; rfl
  by_cases h2 : a = 12
  · subst h2; rfl
  by_cases h3 : a = 13
  · subst h3; rfl
  by_cases h4 : a < 1
  · have h5 : ¬ a ≥ 1 := by omega
    simp [h1, h2, h3, h4, h5]
  · have h5 : a ≥ 1 := by omega
    by_cases h6 : a > 13
    · have h7 : ¬ a ≤ 10 := by omega
      simp [h1, h2, h3, h4, h5, h6, h7]
    · have h7 : a ≤ 10 := by omega
      simp [h1, h2, h3, h4, h5, h6, h7]

theorem ar_impl (k : Nat) (a : Int) (hk : 0 < k) : impl_ArityOf.f k a = some (ar a) := by
  obtain ⟨k, rfl⟩ := succ_of hk
  simp only [impl_ArityOf.f, impl_ArityOf.j0, ar]
  by_cases h4 : a < 1
  · simp [h4]
  · by_cases h6 : a > 13
    · simp [h4, h6]
    · by_cases h1 : a = 11
      · subst h1; rfl
      by_cases h2 : a = 12
      · subst h2; rfl
      by_cases h3 : a = 13
      · subst h3; rfl
      simp [h1, h2, h3, h4, h6]

/-- Is an optic well formed, its arguments left aside? -/
def lf (y : S29) : Bool :=
  decide ((y.f3.length : Int) = ar y.f0) &&
    (if y.f0 = 2 ∨ y.f0 = 3 ∨ y.f0 = 10 then nmok y.f1 && decide (y.f2 = 0)
     else decide (y.f1.toList = []) && (if y.f0 = 6 then decide (0 ≤ y.f2) && decide (y.f2 ≤ 1000) else if y.f0 = 7 then decide (-1000 ≤ y.f2) && decide (y.f2 ≤ 1000) else decide (y.f2 = 0)))

mutual
/-- Is an optic well formed? -/
def fm : S29 → Bool
  | ⟨a, b, c, l⟩ => fms l && lf ⟨a, b, c, l⟩
def fms : List S29 → Bool
  | [] => true
  | x :: xs => fm x && fms xs
end

theorem fm_eq (y : S29) : fm y = (fms y.f3 && lf y) := by cases y; simp only [fm]
theorem fms_drop (l : List S29) (i : Nat) (h : i < l.length) : fms (l.drop i) = (fm l[i] && fms (l.drop (i + 1))) := by
  rw [List.drop_eq_getElem_cons h, fms]

theorem empty_list {s : ByteArray} (h : s.toList = []) : nmok s = false := by
  have hs : s.size = 0 := by
    rw [ByteArray.toList_eq] at h
    have := congrArg List.length h
    simpa using this
  unfold nmok
  simp [hs]

theorem l1In_f (a b c : Int) : spec_l1In.f a b c = some (decide (b ≤ a) && decide (a ≤ c)) := by
  unfold spec_l1In.f
  by_cases h : a ≥ b
  · have h' : b ≤ a := h
    simp [h']
  · have h' : ¬ b ≤ a := h
    simp [h']

theorem j2_spec (y : S29) (b : Bool) (k : Nat) (hk : 0 < k) : spec_l7Form.j2 k b y.f0 y.f1 y.f2 y.f3 = some (!b && (if y.f0 = 6 then decide (0 ≤ y.f2) && decide (y.f2 ≤ 1000) else if y.f0 = 7 then decide (-1000 ≤ y.f2) && decide (y.f2 ≤ 1000) else decide (y.f2 = 0))) := by
  obtain ⟨k, rfl⟩ := succ_of hk
  simp only [spec_l7Form.j2, l1In_f, Option.bind_some]
  cases b
  · by_cases h6 : y.f0 = 6
    · simp [h6]
    · by_cases h7 : y.f0 = 7
      · simp [h7]
      · by_cases h8 : y.f2 = 0 <;> simp [h6, h7, h8]
  · simp

theorem j1_spec (y : S29) (h1 : y.f1.size ≤ 1048576) (k : Nat) (hk : y.f1.size + 3 < k) : spec_l7Form.j1 k (decide (y.f0 = 2 ∨ y.f0 = 3 ∨ y.f0 = 10)) y.f0 y.f1 y.f2 y.f3 = some (lf y) := by
  obtain ⟨k, rfl⟩ := succ_of hk
  have hb : (((y.f3.length : Int) != ar y.f0)) = !decide ((y.f3.length : Int) = ar y.f0) := by
    by_cases h : (y.f3.length : Int) = ar y.f0
    · rw [h]; simp
    · rw [bne_iff_ne.mpr h]; simp [h]
  simp only [spec_l7Form.j1, name_spec y.f1 (by omega) k (by omega), ar_spec k y.f0 (by omega), Option.bind_some, j2_spec y _ k (by omega), hb]
  unfold lf
  by_cases hn : y.f0 = 2 ∨ y.f0 = 3 ∨ y.f0 = 10
  · have h6 : ¬ y.f0 = 6 := by omega
    have h7 : ¬ y.f0 = 7 := by omega
    simp only [hn, decide_true, if_true, h6, h7, if_false]
    cases nmok y.f1 <;> simp
  · simp only [hn, decide_false, if_false]
    by_cases he : y.f1.toList = []
    · rw [empty_list he]; simp [he]
    · cases nmok y.f1 <;> simp [he]

theorem form_spec (y : S29) (sm : Sm y) : Ev (fun k => spec_l7Form.f k y.f0 y.f1 y.f2 y.f3) (fm y) := by
  induction sm with
  | mk y h0 h1 h2 h3 h4 ih =>
    have loop : ∀ d i, i + d = y.f3.length → Ev (fun k => spec_l7Form.l0 k i y.f0 y.f1 y.f2 y.f3) (fms (y.f3.drop i) && lf y) := by
      intro d
      induction d with
      | zero =>
        intro i hi
        have e0 : fms (y.f3.drop i) = true := by rw [List.drop_of_length_le (by omega)]; simp [fms]
        rw [e0, Bool.true_and]
        refine ⟨y.f1.size + 5, fun k hk => ?_⟩
        obtain ⟨k, rfl⟩ := succ_of (show 0 < k by omega)
        have hj := j1_spec y h1 k (by omega)
        simp (disch := omega) only [spec_l7Form.l0, if_neg]
        by_cases a2 : y.f0 = 2
        · rw [if_pos a2]; simpa [a2] using hj
        · rw [if_neg a2]
          by_cases a3 : y.f0 = 3
          · rw [if_pos a3]; simpa [a3] using hj
          · rw [if_neg a3]
            by_cases a10 : y.f0 = 10
            · rw [a10] at hj ⊢; simpa using hj
            · rw [beq_eq_false_iff_ne.mpr a10]; simpa [a2, a3, a10] using hj
      | succ d ihd =>
        intro i hi
        have hlt : i < y.f3.length := by omega
        obtain ⟨K1, e1⟩ := ih y.f3[i] (List.getElem_mem hlt)
        obtain ⟨K2, e2⟩ := ihd (i + 1) (by omega)
        rw [fms_drop y.f3 i hlt]
        refine ⟨K1 + K2 + 1, fun k hk => ?_⟩
        obtain ⟨k, rfl⟩ := succ_of (show 0 < k by omega)
        simp (disch := omega) only [spec_l7Form.l0, rdI, if_pos, e1, Option.bind_some, w64, cast1, e2]
        cases fm y.f3[i] <;> simp
    obtain ⟨K, e⟩ := loop y.f3.length 0 (by omega)
    rw [fm_eq]
    refine ⟨K + 1, fun k hk => ?_⟩
    obtain ⟨k, rfl⟩ := succ_of (show 0 < k by omega)
    have e' := e k (by omega)
    simp only [Int.natCast_zero, List.drop_zero] at e'
    simp only [spec_l7Form.f, e']

theorem stepOk_f (a : Int) : impl_stepOk.f a = some (decide (-1000 ≤ a) && decide (a ≤ 1000)) := by
  unfold impl_stepOk.f
  by_cases h : a ≥ -1000
  · have h' : -1000 ≤ a := h
    simp [h']
  · have h' : ¬ -1000 ≤ a := h
    simp [h']

theorem form_impl (y : S29) (sm : Sm y) : Ev (fun k => impl_opticFormed.f k y.f0 y.f1 y.f2 y.f3) (fm y) := by
  induction sm with
  | mk y h0 h1 h2 h3 h4 ih =>
    have loop : ∀ d i, i + d = y.f3.length → ∀ b : Bool, Ev (fun k => impl_opticFormed.l0 k b y.f3 y.f3.length i) (b && fms (y.f3.drop i)) := by
      intro d
      induction d with
      | zero =>
        intro i hi b
        have e0 : fms (y.f3.drop i) = true := by rw [List.drop_of_length_le (by omega)]; simp [fms]
        rw [e0, Bool.and_true]
        refine ⟨1, fun k hk => ?_⟩
        obtain ⟨k, rfl⟩ := succ_of (show 0 < k by omega)
        simp (disch := omega) only [impl_opticFormed.l0, if_neg]
      | succ d ihd =>
        intro i hi b
        have hlt : i < y.f3.length := by omega
        obtain ⟨K1, e1⟩ := ih y.f3[i] (List.getElem_mem hlt)
        obtain ⟨K2, e2⟩ := ihd (i + 1) (by omega) (b && fm y.f3[i])
        obtain ⟨K3, e3⟩ := ihd (i + 1) (by omega) false
        rw [fms_drop y.f3 i hlt, ← Bool.and_assoc]
        refine ⟨K1 + K2 + K3 + 1, fun k hk => ?_⟩
        obtain ⟨k, rfl⟩ := succ_of (show 0 < k by omega)
        have e2' := e2 k (by omega)
        have e3' := e3 k (by omega)
        simp (disch := omega) only [impl_opticFormed.l0, rdI, if_pos, e1, Option.bind_some, w64, cast1]
        cases b
        · simpa using e3'
        · simpa using e2'
    have fin : ∀ b : Bool, Ev (fun k => impl_opticFormed.j1 k b y.f0 y.f1 y.f2 y.f3) (b && fms y.f3) := by
      intro b
      obtain ⟨K, e⟩ := loop y.f3.length 0 (by omega) b
      refine ⟨K + 1, fun k hk => ?_⟩
      obtain ⟨k, rfl⟩ := succ_of (show 0 < k by omega)
      have e' := e k (by omega)
      simp only [Int.natCast_zero, List.drop_zero] at e'
      simp only [impl_opticFormed.j1, e']
    obtain ⟨K1, t1⟩ := fin true
    obtain ⟨K2, t2⟩ := fin false
    have fin' : ∀ (b : Bool) (k : Nat), K1 + K2 ≤ k → impl_opticFormed.j1 k b y.f0 y.f1 y.f2 y.f3 = some (b && fms y.f3) := by
      intro b k hk
      cases b
      · exact t2 k (by omega)
      · exact t1 k (by omega)
    rw [fm_eq, Bool.and_comm]
    refine ⟨K1 + K2 + y.f1.size + 10, fun k hk => ?_⟩
    obtain ⟨k, rfl⟩ : ∃ m, k = m + 2 := ⟨k - 2, by omega⟩
    have hbe : ((y.f3.length : Int) == ar y.f0) = decide ((y.f3.length : Int) = ar y.f0) := rfl
    simp only [impl_opticFormed.f, impl_opticFormed.j0, ar_impl (k + 1) y.f0 (by omega), Option.bind_some, hbe, name_impl y.f1 (by omega) k (by omega), stepOk_f, fin' _ k (by omega)]
    unfold lf
    cases decide ((y.f3.length : Int) = ar y.f0)
    · by_cases a2 : y.f0 = 2
      · simp [a2]
      · by_cases a3 : y.f0 = 3
        · simp [a3]
        · by_cases a10 : y.f0 = 10
          · simp [a10]
          · by_cases a6 : y.f0 = 6
            · simp [a6]
            · by_cases a7 : y.f0 = 7
              · simp [a7]
              · simp [a2, a3, a10, a6, a7]
    · by_cases a2 : y.f0 = 2
      · cases hnm : nmok y.f1 <;> simp [a2, hnm]
        rfl
      · by_cases a3 : y.f0 = 3
        · cases hnm : nmok y.f1 <;> simp [a3, hnm]
          rfl
        · by_cases a10 : y.f0 = 10
          · cases hnm : nmok y.f1 <;> simp [a10, hnm]
            rfl
          · by_cases he : y.f1.toList = []
            · by_cases a6 : y.f0 = 6
              · by_cases h9 : y.f2 ≥ 0 <;> simp [a6, he, h9]
              · by_cases a7 : y.f0 = 7
                · simp [a7, he]
                · simp [a2, a3, a10, a6, a7, he]; rfl
            · by_cases a6 : y.f0 = 6
              · simp [a6, he]
              · by_cases a7 : y.f0 = 7
                · simp [a7, he]
                · simp [a2, a3, a10, a6, a7, he]

/-- Is this an optic? -/
def isO (y : S29) : Bool := decide (nd y ≤ 20) && (decide (dp y ≤ 10) && fm y)

theorem is_f (y : S29) (sm : Sm y) (hn : nd y ≤ 1048577) : Ev (fun k => spec_IsOptic.f k y.f0 y.f1 y.f2 y.f3) (isO y) ∧ Ev (fun k => impl_IsOptic.f k y.f0 y.f1 y.f2 y.f3) (isO y) := by
  obtain ⟨_, ⟨K1, e1⟩⟩ := size_f y sm hn
  obtain ⟨⟨K2, e2⟩, ⟨K3, e3⟩⟩ := depth_f y sm hn
  obtain ⟨K4, e4⟩ := form_spec y sm
  obtain ⟨K5, e5⟩ := form_impl y sm
  obtain ⟨r, ⟨K6, e6⟩, _, q1, q2⟩ := left_f y sm hn 20 (by omega) (by omega)
  unfold isO
  constructor
  · refine ⟨K2 + K4 + K6, fun k hk => ?_⟩
    have e2' := e2 k (by omega)
    have e4' := e4 k (by omega)
    have e6' := e6 k (by omega)
    simp only [spec_IsOptic.f, e2', e4', e6', Option.bind_some]
    by_cases h : nd y ≤ 20
    · have hr := q1 (by omega)
      rw [if_pos (by omega)]
      by_cases h2 : dp y ≤ 10
      · rw [if_pos (by omega)]; simp [h, h2]
      · rw [if_neg (by omega)]; simp [h2]
    · have hr := q2 (by omega)
      rw [if_neg (by omega)]; simp [h]
  · refine ⟨K1 + K3 + K5, fun k hk => ?_⟩
    have e1' := e1 k (by omega)
    have e3' := e3 k (by omega)
    have e5' := e5 k (by omega)
    simp only [impl_IsOptic.f, e1', e3', e5', Option.bind_some]
    by_cases h : nd y ≤ 20
    · rw [if_pos (by omega)]
      by_cases h2 : dp y ≤ 10
      · rw [if_pos (by omega)]; simp [h, h2]
      · rw [if_neg (by omega)]; simp [h2]
    · rw [if_neg (by omega)]; simp [h]

/-- The figures of a number. -/
def dgs (n : Nat) : ByteArray := if n < 10 then strOfNums [48 + (n : Int)] else dgs (n / 10) ++ strOfNums [48 + ((n % 10 : Nat) : Int)]
termination_by n
decreasing_by omega

/-- The figures of a number; none of nought. -/
def dg0 (n : Nat) : ByteArray := if n = 0 then ⟨#[]⟩ else dgs n

theorem dg0_step (n : Nat) (h : n ≠ 0) : dg0 n = dg0 (n / 10) ++ strOfNums [48 + ((n % 10 : Nat) : Int)] := by
  unfold dg0
  rw [if_neg h]
  by_cases h10 : n < 10
  · have e : n / 10 = 0 := by omega
    have e' : n % 10 = n := by omega
    rw [dgs, if_pos h10, e, if_pos rfl, e']
    exact (ByteArray.empty_append).symm
  · rw [dgs, if_neg h10, if_neg (by omega)]

theorem dgs_size (d : Nat) : ∀ n, n < 10 ^ (d + 1) → (dgs n).size ≤ d + 1 := by
  induction d with
  | zero => intro n h; rw [dgs, if_pos (by omega)]; simp [strOfNums_size]
  | succ d ih =>
    intro n h
    by_cases h10 : n < 10
    · rw [dgs, if_pos h10]; simp [strOfNums_size]
    · rw [dgs, if_neg h10, ByteArray.size_append, strOfNums_size]
      have := ih (n / 10) (by rw [Nat.pow_succ] at h; omega)
      simp; omega

/-- A number with its sign. -/
def signed (b : Bool) (n : Nat) : Int := if b then -(n : Int) else n

theorem fig (x : Int) (m : Nat) (hm : m < 10) (hx : x = m ∨ x = -(m : Int)) : (x < 0 → wrap64 (48 + wrap64 (-x)) % 256 = 48 + (m : Int)) ∧ (¬ x < 0 → wrap64 (48 + x) % 256 = 48 + (m : Int)) := by
  unfold wrap64
  rcases hx with rfl | rfl <;> constructor <;> intro h <;> omega

theorem spec_digits (b : Bool) (d : Nat) : ∀ (k n : Nat) (out : ByteArray), n < 10 ^ d → d + out.size ≤ 1000 → d ≤ 100 → n ≤ 9223372036854775808 → d < k →
    spec_FormatInt.l0 k (signed b n) b out = some ((if b then (⟨#[45]⟩ : ByteArray) else ⟨#[]⟩) ++ (dg0 n ++ out)) := by
  induction d with
  | zero =>
    intro k n out h hz hd hu hk
    obtain ⟨k, rfl⟩ := succ_of hk
    have e : n = 0 := by omega
    subst e
    have e0 : signed b 0 = 0 := by cases b <;> rfl
    simp only [spec_FormatInt.l0]
    have e1 : dg0 0 ++ out = out := ByteArray.empty_append
    rw [if_pos e0, e1]
    cases b
    · simp; exact ByteArray.empty_append.symm
    · simp; omega
  | succ d ih =>
    intro k n out h hz hd hu hk
    obtain ⟨k, rfl⟩ := succ_of hk
    by_cases h0 : n = 0
    · subst h0
      have e0 : signed b 0 = 0 := by cases b <;> rfl
      simp only [spec_FormatInt.l0]
      have e1 : dg0 0 ++ out = out := ByteArray.empty_append
      rw [if_pos e0, e1]
      cases b
      · simp; exact ByteArray.empty_append.symm
      · simp; omega
    · have hi := ih k (n / 10) (strOfNums [48 + ((n % 10 : Nat) : Int)] ++ out) (by rw [Nat.pow_succ] at h; omega) (by rw [ByteArray.size_append, strOfNums_size]; simp; omega) (by omega) (by omega) (by omega)
      have e0 : signed b n ≠ 0 := by unfold signed; split <;> omega
      have em : Int.tmod (signed b n) 10 = signed b (n % 10) := by
        cases b
        · show Int.tmod (n : Int) 10 = ((n % 10 : Nat) : Int)
          rw [Int.tmod_eq_emod_of_nonneg (by omega)]; omega
        · show Int.tmod (-(n : Int)) 10 = -((n % 10 : Nat) : Int)
          rw [Int.neg_tmod, Int.tmod_eq_emod_of_nonneg (by omega)]; omega
      have ed : wrap64 (Int.tdiv (signed b n) 10) = signed b (n / 10) := by
        cases b
        · show wrap64 (Int.tdiv (n : Int) 10) = ((n / 10 : Nat) : Int)
          rw [Int.tdiv_eq_ediv_of_nonneg (by omega)]; unfold wrap64; omega
        · show wrap64 (Int.tdiv (-(n : Int)) 10) = -((n / 10 : Nat) : Int)
          rw [Int.neg_tdiv, Int.tdiv_eq_ediv_of_nonneg (by omega)]; unfold wrap64; omega
      simp only [spec_FormatInt.l0]
      rw [if_neg e0, em, ed]
      have eb : (strOfNums [48 + ((n % 10 : Nat) : Int)]).size + out.size ≤ 9223372036854775807 := by rw [strOfNums_size]; simp; omega
      have hx : signed b (n % 10) = ((n % 10 : Nat) : Int) ∨ signed b (n % 10) = -((n % 10 : Nat) : Int) := by cases b <;> simp [signed]
      obtain ⟨ez1, ez2⟩ := fig (signed b (n % 10)) (n % 10) (by omega) hx
      by_cases hneg : signed b (n % 10) < 0
      · rw [if_pos hneg, ez1 hneg]
        simp only [Option.bind_some]
        rw [if_pos eb, hi, dg0_step n h0, ByteArray.append_assoc]
      · rw [if_neg hneg, ez2 hneg]
        simp only [Option.bind_some]
        rw [if_pos eb, hi, dg0_step n h0, ByteArray.append_assoc]

/-- A whole number's text. -/
def fmt (a : Int) : ByteArray := (if a < 0 then (⟨#[45]⟩ : ByteArray) else ⟨#[]⟩) ++ dgs a.natAbs

theorem fmt_spec (a : Int) (h1 : -9223372036854775808 ≤ a) (h2 : a ≤ 9223372036854775807) (k : Nat) (hk : 40 < k) : spec_FormatInt.f k a = some (fmt a) := by
  have big : a.natAbs < 10 ^ 20 := by
    have : a.natAbs ≤ 9223372036854775808 := by omega
    omega
  by_cases h0 : a = 0
  · subst h0
    have e3 : fmt 0 = (⟨#[48]⟩ : ByteArray) := by
      unfold fmt
      rw [if_neg (by omega)]
      have : dgs (Int.natAbs 0) = (⟨#[48]⟩ : ByteArray) := by rw [dgs, if_pos (by decide)]; rfl
      rw [this]; exact ByteArray.empty_append
    rw [e3]; simp only [spec_FormatInt.f, if_true]
  · have ed : dg0 a.natAbs = dgs a.natAbs := by unfold dg0; rw [if_neg (by omega)]
    have eq_ : a = signed (decide (a < 0)) a.natAbs := by unfold signed; by_cases h : a < 0 <;> simp [h] <;> omega
    unfold spec_FormatInt.f
    rw [if_neg h0]
    have := spec_digits (decide (a < 0)) 20 k a.natAbs ⟨#[]⟩ big (by decide) (by omega) (by omega) (by omega)
    rw [← eq_, ed] at this
    rw [this]
    unfold fmt
    by_cases h : a < 0 <;> simp [h] <;> exact ByteArray.append_empty

theorem impl_digits (d : Nat) (hd : d ≤ 100) : ∀ (k n : Nat), n < 10 ^ (d + 1) → n ≤ 18446744073709551615 → d < k → impl_digitsOf.f k (n : Int) = some (dgs n) := by
  induction d with
  | zero =>
    intro k n h hu hk
    obtain ⟨k, rfl⟩ := succ_of hk
    simp only [impl_digitsOf.f]
    rw [if_pos (by omega), dgs, if_pos (by omega), IntKind.wrap_u64]
    have e : ((48 + (n : Int)) % 18446744073709551616) % 256 = 48 + (n : Int) := by omega
    rw [e]
  | succ d ih =>
    intro k n h hu hk
    obtain ⟨k, rfl⟩ := succ_of hk
    simp only [impl_digitsOf.f]
    by_cases h10 : n < 10
    · rw [if_pos (by omega), dgs, if_pos h10, IntKind.wrap_u64]
      have e : ((48 + (n : Int)) % 18446744073709551616) % 256 = 48 + (n : Int) := by omega
      rw [e]
    · have hp : n / 10 < 10 ^ (d + 1) := by rw [Nat.pow_succ] at h; omega
      have hz := dgs_size d (n / 10) hp
      rw [if_neg (by omega), Int.tdiv_eq_ediv_of_nonneg (by omega), Int.tmod_eq_emod_of_nonneg (by omega)]
      have e1 : IntKind.u64.wrap ((n : Int) / 10) = ((n / 10 : Nat) : Int) := by rw [IntKind.wrap_u64]; omega
      have e2 : (IntKind.u64.wrap (48 + (n : Int) % 10)) % 256 = 48 + ((n % 10 : Nat) : Int) := by rw [IntKind.wrap_u64]; omega
      rw [e1, e2, ih (by omega) k (n / 10) hp (by omega) (by omega)]
      simp only [Option.bind_some]
      rw [if_pos (by rw [strOfNums_size]; simp; omega)]
      conv => rhs; rw [dgs, if_neg h10]

theorem fmt_impl (a : Int) (h1 : -9223372036854775808 ≤ a) (h2 : a ≤ 9223372036854775807) (k : Nat) (hk : 40 < k) : impl_FormatInt.f k a = some (fmt a) := by
  have big : a.natAbs < 10 ^ 20 := by
    have : a.natAbs ≤ 9223372036854775808 := by omega
    omega
  have hz := dgs_size 19 a.natAbs big
  have hd := impl_digits 19 (by omega) k a.natAbs big (by omega) (by omega)
  unfold impl_FormatInt.f fmt
  by_cases h : a < 0
  · have e : IntKind.u64.wrap (-(IntKind.u64.wrap a)) = (a.natAbs : Int) := by rw [IntKind.wrap_u64, IntKind.wrap_u64]; omega
    rw [if_pos h, e, hd]
    simp only [Option.bind_some]
    rw [if_pos (by omega)]
    simp [h]
  · have e : IntKind.u64.wrap a = (a.natAbs : Int) := by rw [IntKind.wrap_u64]; omega
    rw [if_neg h, e, hd]
    simp [h]
    exact ByteArray.empty_append.symm

theorem strOf_bytes (s : ByteArray) : strOfNums (bytesOf s) = s := by
  obtain ⟨⟨l⟩⟩ := s
  have : (bytesOf ⟨⟨l⟩⟩).map (fun n => UInt8.ofNat n.toNat) = l := by
    simp [bytesOf, List.map_map, Function.comp_def]
  unfold strOfNums
  rw [this]

theorem bytes_inj {s t : ByteArray} (h : bytesOf s = bytesOf t) : s = t := by
  rw [← strOf_bytes s, h, strOf_bytes]

theorem ext_data (s : ByteArray) (a b : Nat) : (s.extract a b).data.toList = (s.data.toList.drop a).take (b - a) := by
  obtain ⟨⟨l⟩⟩ := s
  rw [ByteArray.extract_mk]

theorem bytes_extract (s : ByteArray) (a b : Nat) : bytesOf (s.extract a b) = ((bytesOf s).drop a).take (b - a) := by
  unfold bytesOf
  rw [ext_data, List.map_take, List.map_drop]

theorem bytes_append (s t : ByteArray) : bytesOf (s ++ t) = bytesOf s ++ bytesOf t := by
  obtain ⟨⟨l⟩⟩ := s
  obtain ⟨⟨m⟩⟩ := t
  simp [bytesOf]

theorem bytes_one (m : Nat) (h : m < 10) : bytesOf (strOfNums [48 + (m : Int)]) = [48 + (m : Int)] := by
  simp [bytesOf, strOfNums]; omega

theorem toList_iff (s t : ByteArray) : s.toList = t.toList ↔ s = t := by
  constructor
  · intro h
    rw [ByteArray.toList_eq, ByteArray.toList_eq] at h
    apply bytes_inj
    unfold bytesOf
    rw [h]
  · rintro rfl; rfl

theorem fmt_size (a : Int) (h1 : -9223372036854775808 ≤ a) (h2 : a ≤ 9223372036854775807) : (fmt a).size ≤ 21 := by
  have big : a.natAbs < 10 ^ (19 + 1) := by
    have : a.natAbs ≤ 9223372036854775808 := by omega
    omega
  have := dgs_size 19 a.natAbs big
  unfold fmt
  rw [ByteArray.size_append]
  have h : (if a < 0 then (⟨#[45]⟩ : ByteArray) else ⟨#[]⟩).size ≤ 1 := by
    split
    · show 1 ≤ 1; omega
    · show 0 ≤ 1; omega
  omega

theorem fms_mem (l : List S29) (h : fms l = true) (z : S29) (hz : z ∈ l) : fm z = true := by
  induction l with
  | nil => simp at hz
  | cons x xs ih =>
    rw [fms, Bool.and_eq_true] at h
    rcases List.mem_cons.1 hz with rfl | hz
    · exact h.1
    · exact ih h.2 hz

theorem join_two (s t u : ByteArray) (h1 : s.size ≤ 1048576) (h2 : t.size ≤ 1048576) (h3 : u.size ≤ 1048576) (k : Nat) (hk : 2 < k) : spec_Join.f k [t, u] s = some ((t ++ s) ++ u) := by
  obtain ⟨k, rfl⟩ : ∃ m, k = m + 3 := ⟨k - 3, by omega⟩
  have hl : (([t, u] : List ByteArray).length : Int) = 2 := rfl
  have r0 : rdOf ByteArray.empty [t, u] 0 = t := rfl
  have r1 : rdOf ByteArray.empty [t, u] 1 = u := rfl
  have w1 : wrap64 (0 + 1) = 1 := by unfold wrap64; omega
  have w2 : wrap64 (1 + 1) = 2 := by unfold wrap64; omega
  have c0 : ([] : List Int).length + t.size < 140737488355328 := by simp; omega
  have c1 : (([] : List Int) ++ bytesOf t).length + s.size < 140737488355328 := by simp only [List.nil_append, bytesOf_length]; omega
  have c2 : ((([] : List Int) ++ bytesOf t) ++ bytesOf s).length + u.size < 140737488355328 := by simp only [List.nil_append, List.length_append, bytesOf_length]; omega
  have e : ((([] : List Int) ++ bytesOf t) ++ bytesOf s) ++ bytesOf u = bytesOf ((t ++ s) ++ u) := by rw [bytes_append, bytes_append, List.nil_append]
  simp (disch := omega) only [spec_Join.f, spec_Join.l0, hl, r0, r1, w1, w2, if_pos, if_neg, if_pos c0, if_pos c1, if_pos c2, Option.bind_some, e, strOf_bytes]

set_option maxHeartbeats 2000000 in
theorem textO_f (y : S29) (sm : Sm y) : fm y = true → nd y ≤ 1000 → ∃ t, Ev (fun k => spec_l8Text.f k y.f0 y.f1 y.f2 y.f3) t ∧ Ev (fun k => impl_opticText.f k y.f0 y.f1 y.f2 y.f3) t ∧ t.size + 6 ≤ 31 * nd y := by
  induction sm with
  | mk y h0 h1 h2 h3 h4 ih =>
    intro hf hn
    rw [fm_eq, Bool.and_eq_true] at hf
    obtain ⟨hfs, hl⟩ := hf
    have he := nd_eq y
    have hlen := nds_len y.f3
    have child : ∀ i (hlt : i < y.f3.length), ∃ t, Ev (fun k => spec_l8Text.f k y.f3[i].f0 y.f3[i].f1 y.f3[i].f2 y.f3[i].f3) t ∧ Ev (fun k => impl_opticText.f k y.f3[i].f0 y.f3[i].f1 y.f3[i].f2 y.f3[i].f3) t ∧ t.size + 6 ≤ 31 * nd y.f3[i] := by
      intro i hlt
      have hm := nds_mem y.f3 _ (List.getElem_mem hlt)
      exact ih _ (List.getElem_mem hlt) (fms_mem _ hfs _ (List.getElem_mem hlt)) (by omega)
    have step : ∀ (i : Nat) (hlt : i < y.f3.length) (t : ByteArray) (acc : List ByteArray) (r : ByteArray), acc.length < 1000 → Ev (fun k => spec_l8Text.f k y.f3[i].f0 y.f3[i].f1 y.f3[i].f2 y.f3[i].f3) t → Ev (fun k => spec_l8Text.l0 k (acc ++ [t]) ((i + 1 : Nat) : Int) y.f0 y.f1 y.f2 y.f3) r → Ev (fun k => spec_l8Text.l0 k acc (i : Int) y.f0 y.f1 y.f2 y.f3) r := by
      rintro i hlt t acc r ha ⟨K1, e1⟩ ⟨K2, e2⟩
      refine ⟨K1 + K2 + 1, fun k hk => ?_⟩
      obtain ⟨k, rfl⟩ := succ_of (show 0 < k by omega)
      have c : acc.length < 8796093022208 := by omega
      simp (disch := omega) only [spec_l8Text.l0, rdI, if_pos, e1, Option.bind_some, if_pos c, w64, cast1, e2]
    unfold lf at hl
    rw [Bool.and_eq_true, decide_eq_true_eq] at hl
    obtain ⟨har, hown⟩ := hl
    have hrange : 1 ≤ y.f0 ∧ y.f0 ≤ 13 := by
      unfold ar at har
      split at har <;> omega
    have hs2 := fmt_size y.f2 h2.1 h2.2
    have two : ∀ s : UInt8, y.f3.length = 2 → ∃ t u : ByteArray, ∃ K, (∀ k, K ≤ k → impl_opticText.f k (rd_T29 y.f3 0).f0 (rd_T29 y.f3 0).f1 (rd_T29 y.f3 0).f2 (rd_T29 y.f3 0).f3 = some t) ∧ (∀ k, K ≤ k → impl_opticText.f k (rd_T29 y.f3 1).f0 (rd_T29 y.f3 1).f1 (rd_T29 y.f3 1).f2 (rd_T29 y.f3 1).f3 = some u) ∧
        t.size + u.size + 12 ≤ 31 * nds y.f3 ∧ (∀ r, Ev (fun k => spec_l8Text.l0 k [t, u] 2 y.f0 y.f1 y.f2 y.f3) r → Ev (fun k => spec_l8Text.f k y.f0 y.f1 y.f2 y.f3) r) ∧ (∀ k, 2 < k → spec_Join.f k [t, u] ⟨#[s]⟩ = some ((t ++ ⟨#[s]⟩) ++ u)) := by
      intro s hl2
      obtain ⟨t, e1, ⟨K2, e2⟩, hts⟩ := child 0 (by omega)
      obtain ⟨u, e3, ⟨K4, e4⟩, hus⟩ := child 1 (by omega)
      have z0 := rdI y.f3 0 (by omega)
      have z1 := rdI y.f3 1 (by omega)
      simp only [Int.natCast_zero, Int.natCast_one] at z0 z1
      have n0 : nds (y.f3.drop 0) = nd y.f3[0] + nds (y.f3.drop 1) := nds_drop y.f3 0 (by omega)
      have n1 := nds_drop y.f3 1 (by omega)
      rw [List.drop_zero] at n0
      refine ⟨t, u, K2 + K4, fun k hk => by rw [z0]; exact e2 k (by omega), fun k hk => by rw [z1]; exact e4 k (by omega), by omega, fun r hr => ?_, fun k hk => ?_⟩
      · obtain ⟨K, e⟩ := step 0 (by omega) t [] r (by simp) e1 (step 1 (by omega) u [t] r (by simp) e3 hr)
        refine ⟨K + 1, fun k hk => ?_⟩
        obtain ⟨k, rfl⟩ := succ_of (show 0 < k by omega)
        exact e k (by omega)
      · exact join_two ⟨#[s]⟩ t u (by show 1 ≤ 1048576; omega) (by omega) (by omega) k hk
    by_cases k1 : y.f0 = 1
    · have hl0 : y.f3.length = 0 := by rw [k1] at har; unfold ar at har; simp at har; simp [har]
      refine ⟨(⟨#[105, 100]⟩ : ByteArray), ⟨60, fun k hk => ?_⟩, ⟨60, fun k hk => ?_⟩, ?_⟩
      · obtain ⟨k, rfl⟩ : ∃ m, k = m + 2 := ⟨k - 2, by omega⟩
        simp (disch := omega) only [spec_l8Text.f, spec_l8Text.l0, if_neg, if_pos]
      · obtain ⟨k, rfl⟩ := succ_of (show 0 < k by omega)
        simp (disch := omega) only [impl_opticText.f, if_neg, if_pos]
      · show 2 + 6 ≤ _; omega
    by_cases k4 : y.f0 = 4
    · have hl0 : y.f3.length = 0 := by rw [k4] at har; unfold ar at har; simp at har; simp [har]
      refine ⟨(⟨#[101, 97, 99, 104]⟩ : ByteArray), ⟨60, fun k hk => ?_⟩, ⟨60, fun k hk => ?_⟩, ?_⟩
      · obtain ⟨k, rfl⟩ : ∃ m, k = m + 2 := ⟨k - 2, by omega⟩
        simp (disch := omega) only [spec_l8Text.f, spec_l8Text.l0, if_neg, if_pos]
      · obtain ⟨k, rfl⟩ := succ_of (show 0 < k by omega)
        simp (disch := omega) only [impl_opticText.f, if_neg, if_pos]
      · show 4 + 6 ≤ _; omega
    by_cases k5 : y.f0 = 5
    · have hl0 : y.f3.length = 0 := by rw [k5] at har; unfold ar at har; simp at har; simp [har]
      refine ⟨(⟨#[97, 108, 108]⟩ : ByteArray), ⟨60, fun k hk => ?_⟩, ⟨60, fun k hk => ?_⟩, ?_⟩
      · obtain ⟨k, rfl⟩ : ∃ m, k = m + 2 := ⟨k - 2, by omega⟩
        simp (disch := omega) only [spec_l8Text.f, spec_l8Text.l0, if_neg, if_pos]
      · obtain ⟨k, rfl⟩ := succ_of (show 0 < k by omega)
        simp (disch := omega) only [impl_opticText.f, if_neg, if_pos]
      · show 3 + 6 ≤ _; omega
    by_cases k8 : y.f0 = 8
    · have hl0 : y.f3.length = 0 := by rw [k8] at har; unfold ar at har; simp at har; simp [har]
      refine ⟨(⟨#[110, 111, 116]⟩ : ByteArray), ⟨60, fun k hk => ?_⟩, ⟨60, fun k hk => ?_⟩, ?_⟩
      · obtain ⟨k, rfl⟩ : ∃ m, k = m + 2 := ⟨k - 2, by omega⟩
        simp (disch := omega) only [spec_l8Text.f, spec_l8Text.l0, if_neg, if_pos]
      · obtain ⟨k, rfl⟩ := succ_of (show 0 < k by omega)
        simp (disch := omega) only [impl_opticText.f, if_neg, if_pos]
      · show 3 + 6 ≤ _; omega
    by_cases k9 : y.f0 = 9
    · have hl0 : y.f3.length = 0 := by rw [k9] at har; unfold ar at har; simp at har; simp [har]
      refine ⟨(⟨#[114, 101, 118]⟩ : ByteArray), ⟨60, fun k hk => ?_⟩, ⟨60, fun k hk => ?_⟩, ?_⟩
      · obtain ⟨k, rfl⟩ : ∃ m, k = m + 2 := ⟨k - 2, by omega⟩
        simp (disch := omega) only [spec_l8Text.f, spec_l8Text.l0, if_neg, if_pos]
      · obtain ⟨k, rfl⟩ := succ_of (show 0 < k by omega)
        simp (disch := omega) only [impl_opticText.f, if_neg, if_pos]
      · show 3 + 6 ≤ _; omega
    by_cases k2 : y.f0 = 2
    · have hl0 : y.f3.length = 0 := by rw [k2] at har; unfold ar at har; simp at har; simp [har]
      have hnm : nmok y.f1 = true := by rw [if_pos (by omega)] at hown; simp only [Bool.and_eq_true] at hown; exact hown.1
      have hns := nmok_size hnm
      have c1 : 1 + y.f1.size ≤ 9223372036854775807 := by omega
      refine ⟨(⟨#[46]⟩ : ByteArray) ++ y.f1, ⟨60, fun k hk => ?_⟩, ⟨60, fun k hk => ?_⟩, ?_⟩
      · obtain ⟨k, rfl⟩ : ∃ m, k = m + 2 := ⟨k - 2, by omega⟩
        simp (disch := omega) only [spec_l8Text.f, spec_l8Text.l0, if_neg, if_pos, if_pos c1]
      · obtain ⟨k, rfl⟩ := succ_of (show 0 < k by omega)
        simp (disch := omega) only [impl_opticText.f, if_neg, if_pos, if_pos c1]
      · rw [ByteArray.size_append]; show 1 + y.f1.size + 6 ≤ _; omega
    by_cases k3 : y.f0 = 3
    · have hl0 : y.f3.length = 0 := by rw [k3] at har; unfold ar at har; simp at har; simp [har]
      have hnm : nmok y.f1 = true := by rw [if_pos (by omega)] at hown; simp only [Bool.and_eq_true] at hown; exact hown.1
      have hns := nmok_size hnm
      have c1 : 1 + y.f1.size ≤ 9223372036854775807 := by omega
      refine ⟨(⟨#[63]⟩ : ByteArray) ++ y.f1, ⟨60, fun k hk => ?_⟩, ⟨60, fun k hk => ?_⟩, ?_⟩
      · obtain ⟨k, rfl⟩ : ∃ m, k = m + 2 := ⟨k - 2, by omega⟩
        simp (disch := omega) only [spec_l8Text.f, spec_l8Text.l0, if_neg, if_pos, if_pos c1]
      · obtain ⟨k, rfl⟩ := succ_of (show 0 < k by omega)
        simp (disch := omega) only [impl_opticText.f, if_neg, if_pos, if_pos c1]
      · rw [ByteArray.size_append]; show 1 + y.f1.size + 6 ≤ _; omega
    by_cases k10 : y.f0 = 10
    · have hl0 : y.f3.length = 0 := by rw [k10] at har; unfold ar at har; simp at har; simp [har]
      have hnm : nmok y.f1 = true := by rw [if_pos (by omega)] at hown; simp only [Bool.and_eq_true] at hown; exact hown.1
      have hns := nmok_size hnm
      have c1 : 5 + y.f1.size ≤ 9223372036854775807 := by omega
      refine ⟨(⟨#[119, 114, 97, 112, 32]⟩ : ByteArray) ++ y.f1, ⟨60, fun k hk => ?_⟩, ⟨60, fun k hk => ?_⟩, ?_⟩
      · obtain ⟨k, rfl⟩ : ∃ m, k = m + 2 := ⟨k - 2, by omega⟩
        simp (disch := omega) only [spec_l8Text.f, spec_l8Text.l0, if_neg, if_pos, if_pos c1]
      · obtain ⟨k, rfl⟩ := succ_of (show 0 < k by omega)
        simp (disch := omega) only [impl_opticText.f, if_neg, if_pos, if_pos c1]
      · rw [ByteArray.size_append]; show 5 + y.f1.size + 6 ≤ _; omega
    by_cases k6 : y.f0 = 6
    · have hl0 : y.f3.length = 0 := by rw [k6] at har; unfold ar at har; simp at har; simp [har]
      have c1 : 3 + (fmt y.f2).size ≤ 9223372036854775807 := by omega
      refine ⟨(⟨#[97, 116, 32]⟩ : ByteArray) ++ fmt y.f2, ⟨60, fun k hk => ?_⟩, ⟨60, fun k hk => ?_⟩, ?_⟩
      · obtain ⟨k, rfl⟩ : ∃ m, k = m + 2 := ⟨k - 2, by omega⟩
        simp (disch := omega) only [spec_l8Text.f, spec_l8Text.l0, if_neg, if_pos, fmt_spec y.f2 h2.1 h2.2 k (by omega), Option.bind_some, if_pos c1]
      · obtain ⟨k, rfl⟩ := succ_of (show 0 < k by omega)
        simp (disch := omega) only [impl_opticText.f, if_neg, if_pos, fmt_impl y.f2 h2.1 h2.2 k (by omega), Option.bind_some, if_pos c1]
      · rw [ByteArray.size_append]; show 3 + (fmt y.f2).size + 6 ≤ _; omega
    by_cases k7 : y.f0 = 7
    · have hl0 : y.f3.length = 0 := by rw [k7] at har; unfold ar at har; simp at har; simp [har]
      have c1 : 4 + (fmt y.f2).size ≤ 9223372036854775807 := by omega
      refine ⟨(⟨#[97, 100, 100, 32]⟩ : ByteArray) ++ fmt y.f2, ⟨60, fun k hk => ?_⟩, ⟨60, fun k hk => ?_⟩, ?_⟩
      · obtain ⟨k, rfl⟩ : ∃ m, k = m + 2 := ⟨k - 2, by omega⟩
        simp (disch := omega) only [spec_l8Text.f, spec_l8Text.l0, if_neg, if_pos, fmt_spec y.f2 h2.1 h2.2 k (by omega), Option.bind_some, if_pos c1]
      · obtain ⟨k, rfl⟩ := succ_of (show 0 < k by omega)
        simp (disch := omega) only [impl_opticText.f, if_neg, if_pos, fmt_impl y.f2 h2.1 h2.2 k (by omega), Option.bind_some, if_pos c1]
      · rw [ByteArray.size_append]; show 4 + (fmt y.f2).size + 6 ≤ _; omega
    by_cases k11 : y.f0 = 11
    · have hl1 : y.f3.length = 1 := by rw [k11] at har; unfold ar at har; simp at har; omega
      have hpos : 0 < y.f3.length := by omega
      obtain ⟨t, e1, ⟨K2, e2⟩, hts⟩ := child 0 hpos
      have hm := nds_mem y.f3 _ (List.getElem_mem hpos)
      have z0 := rdI y.f3 0 hpos
      simp only [Int.natCast_zero] at z0
      have c1 : 4 + t.size ≤ 9223372036854775807 := by omega
      refine ⟨(⟨#[109, 97, 112, 32]⟩ : ByteArray) ++ t, ?_, ⟨K2 + 1, fun k hk => ?_⟩, ?_⟩
      · have hfin : Ev (fun k => spec_l8Text.l0 k [t] ((0 + 1 : Nat) : Int) y.f0 y.f1 y.f2 y.f3) ((⟨#[109, 97, 112, 32]⟩ : ByteArray) ++ t) := by
          refine ⟨1, fun k hk => ?_⟩
          obtain ⟨k, rfl⟩ := succ_of (show 0 < k by omega)
          have hr : rdOf ByteArray.empty [t] 0 = t := rfl
          have l1 : (0 : Int) < (([t] : List ByteArray).length : Int) := by simp
          simp (disch := omega) only [spec_l8Text.l0, if_neg, if_pos k11, hr, if_pos l1, if_pos c1]
        obtain ⟨K, e⟩ := step 0 hpos t [] _ (by simp) e1 hfin
        refine ⟨K + 1, fun k hk => ?_⟩
        obtain ⟨k, rfl⟩ := succ_of (show 0 < k by omega)
        exact e k (by omega)
      · obtain ⟨k, rfl⟩ := succ_of (show 0 < k by omega)
        have e2' := e2 k (by omega)
        simp (disch := omega) only [impl_opticText.f, if_neg, if_pos k11, if_pos, z0, e2', Option.bind_some, if_pos c1]
      · rw [ByteArray.size_append]; show 4 + t.size + 6 ≤ _; omega
    by_cases k12 : y.f0 = 12
    · have kk := k12
      have hl2 : y.f3.length = 2 := by rw [k12] at har; unfold ar at har; simp at har; omega
      obtain ⟨t, u, K, e1, e2, hts, hsp, hj⟩ := two 59 hl2
      have c1 : 1 + t.size ≤ 9223372036854775807 := by omega
      have s1 : ((⟨#[40]⟩ : ByteArray) ++ t).size = 1 + t.size := by rw [ByteArray.size_append]; rfl
      have c2 : ((⟨#[40]⟩ : ByteArray) ++ t).size + 1 ≤ 9223372036854775807 := by omega
      have s2 : (((⟨#[40]⟩ : ByteArray) ++ t) ++ (⟨#[59]⟩ : ByteArray)).size = 2 + t.size := by rw [ByteArray.size_append, s1]; show 1 + t.size + 1 = _; omega
      have c3 : (((⟨#[40]⟩ : ByteArray) ++ t) ++ (⟨#[59]⟩ : ByteArray)).size + u.size ≤ 9223372036854775807 := by omega
      have s3 : ((((⟨#[40]⟩ : ByteArray) ++ t) ++ (⟨#[59]⟩ : ByteArray)) ++ u).size = 2 + t.size + u.size := by rw [ByteArray.size_append, s2]
      have c4 : ((((⟨#[40]⟩ : ByteArray) ++ t) ++ (⟨#[59]⟩ : ByteArray)) ++ u).size + 1 ≤ 9223372036854775807 := by omega
      have eJ : (⟨#[40]⟩ : ByteArray) ++ ((t ++ (⟨#[59]⟩ : ByteArray)) ++ u) = (((⟨#[40]⟩ : ByteArray) ++ t) ++ (⟨#[59]⟩ : ByteArray)) ++ u := by simp only [ByteArray.append_assoc]
      have sJ : ((t ++ (⟨#[59]⟩ : ByteArray)) ++ u).size = t.size + 1 + u.size := by rw [ByteArray.size_append, ByteArray.size_append]; rfl
      have d1 : 1 + ((t ++ (⟨#[59]⟩ : ByteArray)) ++ u).size ≤ 9223372036854775807 := by omega
      refine ⟨((((⟨#[40]⟩ : ByteArray) ++ t) ++ (⟨#[59]⟩ : ByteArray)) ++ u) ++ (⟨#[41]⟩ : ByteArray), hsp _ ⟨4, fun k hk => ?_⟩, ⟨K + 1, fun k hk => ?_⟩, ?_⟩
      · obtain ⟨k, rfl⟩ := succ_of (show 0 < k by omega)
        simp (disch := omega) only [spec_l8Text.l0, if_neg, if_pos, hj k (by omega), Option.bind_some, if_pos d1, eJ, if_pos c4]
      · obtain ⟨k, rfl⟩ := succ_of (show 0 < k by omega)
        simp (disch := omega) only [impl_opticText.f, if_neg, if_pos, e1 k (by omega), e2 k (by omega), Option.bind_some, if_pos c1, if_pos c2, if_pos c3, if_pos c4]
      · rw [ByteArray.size_append, s3]; show 2 + t.size + u.size + 1 + 6 ≤ _; omega
    · have k13 : y.f0 = 13 := by omega
      have hl2 : y.f3.length = 2 := by rw [k13] at har; unfold ar at har; simp at har; omega
      obtain ⟨t, u, K, e1, e2, hts, hsp, hj⟩ := two 124 hl2
      have c1 : 1 + t.size ≤ 9223372036854775807 := by omega
      have s1 : ((⟨#[40]⟩ : ByteArray) ++ t).size = 1 + t.size := by rw [ByteArray.size_append]; rfl
      have c2 : ((⟨#[40]⟩ : ByteArray) ++ t).size + 1 ≤ 9223372036854775807 := by omega
      have s2 : (((⟨#[40]⟩ : ByteArray) ++ t) ++ (⟨#[124]⟩ : ByteArray)).size = 2 + t.size := by rw [ByteArray.size_append, s1]; show 1 + t.size + 1 = _; omega
      have c3 : (((⟨#[40]⟩ : ByteArray) ++ t) ++ (⟨#[124]⟩ : ByteArray)).size + u.size ≤ 9223372036854775807 := by omega
      have s3 : ((((⟨#[40]⟩ : ByteArray) ++ t) ++ (⟨#[124]⟩ : ByteArray)) ++ u).size = 2 + t.size + u.size := by rw [ByteArray.size_append, s2]
      have c4 : ((((⟨#[40]⟩ : ByteArray) ++ t) ++ (⟨#[124]⟩ : ByteArray)) ++ u).size + 1 ≤ 9223372036854775807 := by omega
      have eJ : (⟨#[40]⟩ : ByteArray) ++ ((t ++ (⟨#[124]⟩ : ByteArray)) ++ u) = (((⟨#[40]⟩ : ByteArray) ++ t) ++ (⟨#[124]⟩ : ByteArray)) ++ u := by simp only [ByteArray.append_assoc]
      have sJ : ((t ++ (⟨#[124]⟩ : ByteArray)) ++ u).size = t.size + 1 + u.size := by rw [ByteArray.size_append, ByteArray.size_append]; rfl
      have d1 : 1 + ((t ++ (⟨#[124]⟩ : ByteArray)) ++ u).size ≤ 9223372036854775807 := by omega
      refine ⟨((((⟨#[40]⟩ : ByteArray) ++ t) ++ (⟨#[124]⟩ : ByteArray)) ++ u) ++ (⟨#[41]⟩ : ByteArray), hsp _ ⟨4, fun k hk => ?_⟩, ⟨K + 1, fun k hk => ?_⟩, ?_⟩
      · obtain ⟨k, rfl⟩ := succ_of (show 0 < k by omega)
        simp (disch := omega) only [spec_l8Text.l0, if_neg, if_pos, hj k (by omega), Option.bind_some, if_pos d1, eJ, if_pos c4]
      · obtain ⟨k, rfl⟩ := succ_of (show 0 < k by omega)
        simp (disch := omega) only [impl_opticText.f, if_neg, if_pos, e1 k (by omega), e2 k (by omega), Option.bind_some, if_pos c1, if_pos c2, if_pos c3, if_pos c4]
      · rw [ByteArray.size_append, s3]; show 2 + t.size + u.size + 1 + 6 ≤ _; omega

theorem formatO_f (y : S29) (sm : Sm y) (hn : nd y ≤ 1048577) : ∃ t, Ev (fun k => spec_FormatOptic.f k y.f0 y.f1 y.f2 y.f3) t ∧ Ev (fun k => impl_FormatOptic.f k y.f0 y.f1 y.f2 y.f3) t := by
  obtain ⟨⟨K1, e1⟩, ⟨K2, e2⟩⟩ := is_f y sm hn
  by_cases h : isO y = true
  · have h' := h
    unfold isO at h'
    simp only [Bool.and_eq_true, decide_eq_true_eq] at h'
    obtain ⟨t, ⟨K3, e3⟩, ⟨K4, e4⟩, -⟩ := textO_f y sm h'.2.2 (by omega)
    exact ⟨t, ⟨K1 + K3, fun k hk => by simp only [spec_FormatOptic.f, e1 k (by omega), Option.bind_some, h, if_true, e3 k (by omega)]⟩, ⟨K2 + K4, fun k hk => by simp only [impl_FormatOptic.f, e2 k (by omega), Option.bind_some, h, if_true, e4 k (by omega)]⟩⟩
  · exact ⟨⟨#[]⟩, ⟨K1, fun k hk => by simp only [spec_FormatOptic.f, e1 k (by omega), Option.bind_some, if_neg h]⟩, ⟨K2, fun k hk => by simp only [impl_FormatOptic.f, e2 k (by omega), Option.bind_some, if_neg h]⟩⟩

theorem FnExactFormatOptic (x0 : S24) (o0 : Ok24 x0) : ∃ k, laws_FnExactFormatOptic.f k x0.f0 x0.f1 x0.f2 x0.f3 = some true := by
  obtain ⟨r, ⟨K1, h1⟩, h⟩ := sz_to x0 o0 1048576 (by omega) (by omega)
  rcases h with h | ⟨h, y, sm, ⟨K2, h2⟩, hn⟩
  · have e1 := h1 K1 (by omega)
    exact ⟨K1, by simp only [laws_FnExactFormatOptic.f, e1, Option.bind_some, if_pos h]⟩
  · obtain ⟨n, ⟨K3, h3⟩, ⟨K4, h4⟩⟩ := formatO_f y sm (by omega)
    obtain ⟨K5, h5⟩ := eq_self y sm
    have e1 := h1 (K1 + K2 + K3 + K4 + K5) (by omega)
    have e2 := h2 (K1 + K2 + K3 + K4 + K5) (by omega)
    have e3 := h3 (K1 + K2 + K3 + K4 + K5) (by omega)
    have e4 := h4 (K1 + K2 + K3 + K4 + K5) (by omega)
    have e5 := h5 (K1 + K2 + K3 + K4 + K5) (by omega)
    exact ⟨K1 + K2 + K3 + K4 + K5, by simp (disch := omega) only [laws_FnExactFormatOptic.f, e1, e2, e3, e4, e5, Option.bind_some, if_neg, if_true, bne_self_eq_false, Bool.false_eq_true, if_false]⟩

end Go.Proofs.Ytibcndpadbipmaa.Pure
