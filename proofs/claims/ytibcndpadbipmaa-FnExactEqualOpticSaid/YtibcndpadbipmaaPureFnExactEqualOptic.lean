/- The program's EqualOptic answers as the reference's and leaves its arguments alone, for every two optics: no condition. -/
import Derived.Test.YtibcndpadbipmaaXEx8
import Derived.Test.YtibcndpadbipmaaXExk
namespace Go.Proofs.Ytibcndpadbipmaa.Pure
open Go.RowKit Go.Proofs.Ytibcndpadbipmaa.XE Go.Proofs.YtibcndpadbipmaaW.PrintWords Go.Proofs.YtibcndpadbipmaaW.PrintLast

set_option linter.unusedSimpArgs false
set_option linter.unusedVariables false

theorem w64 {n : Int} (h : -9223372036854775808 ≤ n) (h' : n ≤ 9223372036854775807) : wrap64 n = n := by unfold wrap64; omega
theorem cast1 (i : Nat) : (i : Int) + 1 = ((i + 1 : Nat) : Int) := by omega
theorem succ_of {d k : Nat} (h : d < k) : ∃ m, k = m + 1 := ⟨k - 1, by omega⟩

theorem rdI (l : List S29) (i : Nat) (h : i < l.length) : rd_T29 l (i : Int) = l[i] := by simp [rd_T29, h]
theorem rdL (l : List S24) (i : Nat) (h : i < l.length) : rd_T24 l (i : Int) = l[i] := by simp [rd_T24, h]

mutual
/-- How many optics an optic holds, itself among them. -/
def nd : S29 → Nat
  | ⟨_, _, _, l⟩ => nds l + 1
def nds : List S29 → Nat
  | [] => 0
  | x :: xs => nd x + nds xs
end

theorem nd_eq (y : S29) : nd y = nds y.f3 + 1 := by cases y; simp only [nd]
theorem nds_drop (l : List S29) (i : Nat) (h : i < l.length) : nds (l.drop i) = nd l[i] + nds (l.drop (i + 1)) := by
  rw [List.drop_eq_getElem_cons h, nds]
theorem nds_len (l : List S29) : l.length ≤ nds l := by
  induction l with
  | nil => simp [nds]
  | cons x xs ih => have := nd_eq x; simp only [nds, List.length_cons]; omega
theorem nds_mem (l : List S29) (z : S29) (h : z ∈ l) : nd z ≤ nds l := by
  induction l with
  | nil => simp at h
  | cons x xs ih =>
    simp only [nds]
    rcases List.mem_cons.1 h with rfl | h
    · omega
    · have := ih h; omega

/-- An optic within bounds, all the way down. -/
inductive Sm : S29 → Prop
  | mk (y : S29) (h0 : -9223372036854775808 ≤ y.f0 ∧ y.f0 ≤ 9223372036854775807) (h1 : y.f1.size ≤ 1048576) (h2 : -9223372036854775808 ≤ y.f2 ∧ y.f2 ≤ 9223372036854775807) (h3 : y.f3.length ≤ 1048576) (h4 : ∀ z ∈ y.f3, Sm z) : Sm y

theorem wf64 {n : Int} (h : (Lit.int .i64 n).wf = true) : -9223372036854775808 ≤ n ∧ n ≤ 9223372036854775807 := by
  simpa [Lit.wf, IntKind.min, IntKind.max, IntKind.signed, IntKind.bits] using h

/-- The argument is weighed; if it is not too heavy, what it is turned into is within bounds. -/
theorem sz_to (x : S24) (ok : Ok24 x) : ∀ left : Int, 0 ≤ left → left ≤ 1048576 →
    ∃ r, Ev (fun k => laws_szOptic.f k x.f0 x.f1 x.f2 x.f3 left) r ∧ (r < 0 ∨ 0 ≤ r ∧ ∃ y, Sm y ∧ Ev (fun k => laws_toOptic.f k x.f0 x.f1 x.f2 x.f3) (y.f0, y.f1, y.f2, y.f3) ∧ (nd y : Int) + r ≤ left + 1) := by
  induction ok with
  | mk x h0 h1 h2 h3 h4 ih =>
    intro left hl0 hl1
    simp only [maxLen] at h1 h3
    by_cases hneg : left - (x.f1.size : Int) < 0
    · refine ⟨-1, ⟨1, fun k hk => ?_⟩, .inl (by omega)⟩
      obtain ⟨k, rfl⟩ := succ_of (show 0 < k by omega)
      simp (disch := omega) only [laws_szOptic.f, w64, if_pos]
    · by_cases hneg2 : left - (x.f1.size : Int) - (x.f3.length : Int) < 0
      · refine ⟨-1, ⟨2, fun k hk => ?_⟩, .inl (by omega)⟩
        obtain ⟨k, rfl⟩ : ∃ m, k = m + 2 := ⟨k - 2, by omega⟩
        simp (disch := omega) only [laws_szOptic.f, laws_szOpticS.f, w64, if_pos, if_neg, Option.bind_some]
      · have loop : ∀ d i (left : Int), i + d = x.f3.length → 0 ≤ left → left ≤ 1048576 → ∃ r, Ev (fun k => laws_szOpticS.l0 k x.f3 left i) r ∧ (r < 0 ∨ 0 ≤ r ∧ ∃ ys : List S29, ys.length = d ∧ (∀ z ∈ ys, Sm z) ∧ (nds ys : Int) + r ≤ left + d ∧
            ∀ p : List S29, p.length = i → Ev (fun k => laws_toOpticS.l0 k x.f3 (p ++ List.replicate d z29) i) (p ++ ys)) := by
          intro d
          induction d with
          | zero =>
            intro i left hi g0 g1
            refine ⟨left, ⟨1, fun k hk => ?_⟩, .inr ⟨g0, [], rfl, by simp, by simp [nds], fun p hp => ⟨1, fun k hk => ?_⟩⟩⟩ <;> obtain ⟨k, rfl⟩ := succ_of (show 0 < k by omega)
            · simp (disch := omega) only [laws_szOpticS.l0, if_neg]
            · simp (disch := omega) only [laws_toOpticS.l0, if_neg]; simp
          | succ d ihd =>
            intro i left hi g0 g1
            have hlt : i < x.f3.length := by omega
            obtain ⟨r1, ⟨K1, e1⟩, hr1⟩ := ih x.f3[i] (List.getElem_mem hlt) left g0 g1
            rcases hr1 with hr1 | ⟨hr1, y, sm, ⟨K2, e2⟩, hn⟩
            · refine ⟨-1, ⟨K1 + 1, fun k hk => ?_⟩, .inl (by omega)⟩
              obtain ⟨k, rfl⟩ := succ_of (show 0 < k by omega)
              simp (disch := omega) only [laws_szOpticS.l0, rdL, if_pos, e1, Option.bind_some]
            · have hy := nd_eq y
              obtain ⟨r, ⟨K3, e3⟩, hr⟩ := ihd (i + 1) r1 (by omega) hr1 (by omega)
              refine ⟨r, ⟨K1 + K3 + 1, fun k hk => ?_⟩, ?_⟩
              · obtain ⟨k, rfl⟩ := succ_of (show 0 < k by omega)
                simp (disch := omega) only [laws_szOpticS.l0, rdL, if_pos, if_neg, e1, Option.bind_some, w64, cast1, e3]
              · rcases hr with hr | ⟨hr, ys, hlen, hsm, hnd, hto⟩
                · exact .inl hr
                · refine .inr ⟨hr, y :: ys, by simp [hlen], ?_, ?_, fun p hp => ?_⟩
                  · intro z hz
                    rcases List.mem_cons.1 hz with rfl | hz
                    · exact sm
                    · exact hsm z hz
                  · simp only [nds]; omega
                  · obtain ⟨K4, e4⟩ := hto (p ++ [y]) (by simp [hp])
                    refine ⟨K2 + K4 + 1, fun k hk => ?_⟩
                    obtain ⟨k, rfl⟩ := succ_of (show 0 < k by omega)
                    have hq : (i : Int) < ((p ++ List.replicate (d + 1) z29).length : Int) := by simp; omega
                    have es : (p ++ List.replicate (d + 1) z29).set i y = (p ++ [y]) ++ List.replicate d z29 := by
                      rw [List.set_append_right _ _ (by omega), hp, Nat.sub_self, List.replicate_succ, List.set_cons_zero, List.append_assoc]; rfl
                    have ey : (⟨y.f0, y.f1, y.f2, y.f3⟩ : S29) = y := by cases y; rfl
                    simp (disch := omega) only [laws_toOpticS.l0, rdL, if_pos, e2, Option.bind_some, w64, cast1, Int.toNat_natCast, if_pos hq, ey, es, e4]
                    simp
        obtain ⟨r, ⟨K1, e1⟩, hr⟩ := loop x.f3.length 0 (left - (x.f1.size : Int) - (x.f3.length : Int)) (by omega) (by omega) (by omega)
        rcases hr with hr | ⟨hr, ys, hlen, hsm, hnd, hto⟩
        · refine ⟨-1, ⟨K1 + 2, fun k hk => ?_⟩, .inl (by omega)⟩
          obtain ⟨k, rfl⟩ : ∃ m, k = m + 2 := ⟨k - 2, by omega⟩
          have e1' := e1 k (by omega)
          simp only [Int.natCast_zero] at e1'
          simp (disch := omega) only [laws_szOptic.f, laws_szOpticS.f, w64, if_neg, if_pos, e1', Option.bind_some]
        · refine ⟨r, ⟨K1 + 2, fun k hk => ?_⟩, .inr ⟨hr, ⟨x.f0, x.f1, x.f2, ys⟩, ?_, ?_, ?_⟩⟩
          · obtain ⟨k, rfl⟩ : ∃ m, k = m + 2 := ⟨k - 2, by omega⟩
            have e1' := e1 k (by omega)
            simp only [Int.natCast_zero] at e1'
            simp (disch := omega) only [laws_szOptic.f, laws_szOpticS.f, w64, if_neg, e1', Option.bind_some]
          · exact .mk _ (wf64 h0) (by show x.f1.size ≤ _; omega) (wf64 h2) (by show ys.length ≤ _; omega) hsm
          · obtain ⟨K2, e2⟩ := hto [] rfl
            refine ⟨K2 + 2, fun k hk => ?_⟩
            obtain ⟨k, rfl⟩ : ∃ m, k = m + 2 := ⟨k - 2, by omega⟩
            have e2' := e2 k (by omega)
            simp only [Int.natCast_zero, List.nil_append] at e2'
            simp (disch := omega) only [laws_toOptic.f, laws_toOpticS.f, if_pos, Int.toNat_natCast, e2', Option.bind_some]
          · simp only [nd]; omega

theorem eq_self (y : S29) (sm : Sm y) : Ev (fun k => laws_eqOptic.f k y.f0 y.f1 y.f2 y.f3 y.f0 y.f1 y.f2 y.f3) true := by
  induction sm with
  | mk y h0 h1 h2 h3 h4 ih =>
    have loop : ∀ d i, i + d = y.f3.length → Ev (fun k => laws_eqOpticS.l0 k y.f3 y.f3 i) true := by
      intro d
      induction d with
      | zero =>
        intro i hi
        refine ⟨1, fun k hk => ?_⟩
        obtain ⟨k, rfl⟩ := succ_of (show 0 < k by omega)
        simp (disch := omega) only [laws_eqOpticS.l0, if_neg]
      | succ d ihd =>
        intro i hi
        have hlt : i < y.f3.length := by omega
        obtain ⟨K1, e1⟩ := ih y.f3[i] (List.getElem_mem hlt)
        obtain ⟨K2, e2⟩ := ihd (i + 1) (by omega)
        refine ⟨K1 + K2 + 1, fun k hk => ?_⟩
        obtain ⟨k, rfl⟩ := succ_of (show 0 < k by omega)
        simp (disch := omega) only [laws_eqOpticS.l0, rdI, if_pos, e1, Option.bind_some, w64, cast1, e2, if_true]
    obtain ⟨K, e⟩ := loop y.f3.length 0 (by omega)
    refine ⟨K + 2, fun k hk => ?_⟩
    obtain ⟨k, rfl⟩ : ∃ m, k = m + 2 := ⟨k - 2, by omega⟩
    have e' := e k (by omega)
    simp only [Int.natCast_zero] at e'
    simp only [laws_eqOptic.f, laws_eqOpticS.f, if_true, e', Option.bind_some]

theorem strOf_bytes (s : ByteArray) : strOfNums (bytesOf s) = s := by
  obtain ⟨⟨l⟩⟩ := s
  have : (bytesOf ⟨⟨l⟩⟩).map (fun n => UInt8.ofNat n.toNat) = l := by
    simp [bytesOf, List.map_map, Function.comp_def]
  unfold strOfNums
  rw [this]

theorem bytes_inj {s t : ByteArray} (h : bytesOf s = bytesOf t) : s = t := by
  rw [← strOf_bytes s, h, strOf_bytes]

theorem ext_data (s : ByteArray) (a b : Nat) : (s.extract a b).data.toList = (s.data.toList.drop a).take (b - a) := by
  obtain ⟨⟨l⟩⟩ := s
  rw [ByteArray.extract_mk]

theorem bytes_extract (s : ByteArray) (a b : Nat) : bytesOf (s.extract a b) = ((bytesOf s).drop a).take (b - a) := by
  unfold bytesOf
  rw [ext_data, List.map_take, List.map_drop]

theorem bytes_append (s t : ByteArray) : bytesOf (s ++ t) = bytesOf s ++ bytesOf t := by
  obtain ⟨⟨l⟩⟩ := s
  obtain ⟨⟨m⟩⟩ := t
  simp [bytesOf]

theorem bytes_one (m : Nat) (h : m < 10) : bytesOf (strOfNums [48 + (m : Int)]) = [48 + (m : Int)] := by
  simp [bytesOf, strOfNums]; omega

theorem toList_iff (s t : ByteArray) : s.toList = t.toList ↔ s = t := by
  constructor
  · intro h
    rw [ByteArray.toList_eq, ByteArray.toList_eq] at h
    apply bytes_inj
    unfold bytesOf
    rw [h]
  · rintro rfl; rfl

theorem lst_step {α : Type} (a b : List α) (i : Nat) (ha : i < a.length) (hb : i < b.length) : (a.drop i = b.drop i) ↔ (a[i] = b[i] ∧ a.drop (i + 1) = b.drop (i + 1)) := by
  rw [List.drop_eq_getElem_cons ha, List.drop_eq_getElem_cons hb, List.cons.injEq]

theorem sO_iff (y z : S29) : y = z ↔ (y.f0 = z.f0 ∧ y.f1 = z.f1 ∧ y.f2 = z.f2 ∧ y.f3 = z.f3) := by
  cases y; cases z; simp

open Classical in
theorem eq_f2 (y : S29) (sm : Sm y) : ∀ z : S29, Ev (fun k => spec_EqualOptic.f k y.f0 y.f1 y.f2 y.f3 z.f0 z.f1 z.f2 z.f3) (decide (y = z)) ∧ Ev (fun k => impl_EqualOptic.f k y.f0 y.f1 y.f2 y.f3 z.f0 z.f1 z.f2 z.f3) (decide (y = z)) := by
  induction sm with
  | mk y h0 h1 h2 h3 h4 ih =>
    intro z
    have hi := sO_iff y z
    by_cases a0 : y.f0 = z.f0 ∧ y.f1 = z.f1 ∧ y.f2 = z.f2 ∧ y.f3.length = z.f3.length
    · obtain ⟨a0, a1, a2, a3⟩ := a0
      have loop : ∀ d i, i + d = y.f3.length → Ev (fun k => spec_EqualOptic.l0 k i y.f0 y.f1 y.f2 y.f3 z.f0 z.f1 z.f2 z.f3) (decide (y.f3.drop i = z.f3.drop i)) ∧ Ev (fun k => impl_EqualOptic.l0 k (y.f3.length : Int) i y.f0 y.f1 y.f2 y.f3 z.f0 z.f1 z.f2 z.f3) (decide (y.f3.drop i = z.f3.drop i)) := by
        intro d
        induction d with
        | zero =>
          intro i hi'
          have e : y.f3.drop i = z.f3.drop i := by rw [List.drop_of_length_le (by omega), List.drop_of_length_le (by omega)]
          simp only [e, decide_true]
          refine ⟨⟨1, fun k hk => ?_⟩, ⟨1, fun k hk => ?_⟩⟩ <;> obtain ⟨k, rfl⟩ := succ_of (show 0 < k by omega)
          · simp (disch := omega) only [spec_EqualOptic.l0, if_neg]
          · simp (disch := omega) only [impl_EqualOptic.l0, if_neg]
        | succ d ihd =>
          intro i hi'
          have b1 : i < y.f3.length := by omega
          have b2 : i < z.f3.length := by omega
          obtain ⟨⟨K3, e3⟩, ⟨K4, e4⟩⟩ := ih y.f3[i] (List.getElem_mem b1) z.f3[i]
          obtain ⟨⟨K5, e5⟩, ⟨K6, e6⟩⟩ := ihd (i + 1) (by omega)
          have es : decide (y.f3.drop i = z.f3.drop i) = decide (y.f3[i] = z.f3[i] ∧ y.f3.drop (i + 1) = z.f3.drop (i + 1)) := decide_eq_decide.mpr (lst_step y.f3 z.f3 i b1 b2)
          rw [es]
          refine ⟨⟨K3 + K5 + 1, fun k hk => ?_⟩, ⟨K4 + K6 + 1, fun k hk => ?_⟩⟩ <;> obtain ⟨k, rfl⟩ := succ_of (show 0 < k by omega)
          · simp (disch := omega) only [spec_EqualOptic.l0, rdI, if_pos, e3, Option.bind_some, w64, cast1, e5]
            by_cases h : y.f3[i] = z.f3[i] <;> simp [h]
          · simp (disch := omega) only [impl_EqualOptic.l0, rdI, if_pos, e4, Option.bind_some, w64, cast1, e6]
            by_cases h : y.f3[i] = z.f3[i] <;> simp [h]
      obtain ⟨⟨K3, e3⟩, ⟨K4, e4⟩⟩ := loop y.f3.length 0 (by omega)
      simp only [List.drop_zero, Int.natCast_zero] at e3 e4
      have hd : decide (y = z) = decide (y.f3 = z.f3) := decide_eq_decide.mpr ⟨fun h => (hi.1 h).2.2.2, fun h => hi.2 ⟨a0, a1, a2, h⟩⟩
      have hb : ((y.f3.length : Int) != (z.f3.length : Int)) = false := by simp [a3]
      have hl : y.f1.toList = z.f1.toList := by rw [a1]
      rw [hd]
      refine ⟨⟨K3 + 2, fun k hk => ?_⟩, ⟨K4 + 2, fun k hk => ?_⟩⟩ <;> obtain ⟨k, rfl⟩ : ∃ m, k = m + 2 := ⟨k - 2, by omega⟩
      · have e3' := e3 k (by omega)
        simp only [spec_EqualOptic.f, spec_EqualOptic.j0, if_pos a0, if_pos hl, if_pos a2, hb, Bool.false_eq_true, if_false]
        exact e3'
      · have e4' := e4 k (by omega)
        simp only [impl_EqualOptic.f, impl_EqualOptic.j0, if_pos a0, if_pos hl, if_pos a2, hb, Bool.false_eq_true, if_false]
        exact e4'
    · have hn : ¬ y = z := fun h => a0 (by rw [h]; simp)
      simp only [hn, decide_false]
      have hz : y.f0 = z.f0 → y.f1 = z.f1 → y.f2 = z.f2 → ((y.f3.length : Int) != (z.f3.length : Int)) = true := fun b0 b1 b2 => bne_iff_ne.mpr (fun h => a0 ⟨b0, b1, b2, by omega⟩)
      refine ⟨⟨2, fun k hk => ?_⟩, ⟨2, fun k hk => ?_⟩⟩ <;> obtain ⟨k, rfl⟩ : ∃ m, k = m + 2 := ⟨k - 2, by omega⟩
      · simp only [spec_EqualOptic.f, spec_EqualOptic.j0, if_true, toList_iff]
        by_cases b0 : y.f0 = z.f0
        · by_cases b1 : y.f1 = z.f1
          · by_cases b2 : y.f2 = z.f2
            · rw [if_pos b0, if_pos b1, if_pos b2, if_pos (hz b0 b1 b2)]
            · rw [if_pos b0, if_pos b1, if_neg b2]
          · rw [if_pos b0, if_neg b1]
        · rw [if_neg b0]
      · simp only [impl_EqualOptic.f, impl_EqualOptic.j0, if_true, toList_iff]
        by_cases b0 : y.f0 = z.f0
        · by_cases b1 : y.f1 = z.f1
          · by_cases b2 : y.f2 = z.f2
            · rw [if_pos b0, if_pos b1, if_pos b2, if_pos (hz b0 b1 b2)]
            · rw [if_pos b0, if_pos b1, if_neg b2]
          · rw [if_pos b0, if_neg b1]
        · rw [if_neg b0]

theorem FnExactEqualOptic (x0 : S24) (o0 : Ok24 x0) (x1 : S24) (o1 : Ok24 x1) : ∃ k, laws_FnExactEqualOptic.f k x0.f0 x0.f1 x0.f2 x0.f3 x1.f0 x1.f1 x1.f2 x1.f3 = some true := by
  obtain ⟨r, ⟨K1, h1⟩, h⟩ := sz_to x0 o0 1048576 (by omega) (by omega)
  rcases h with h | ⟨h, y, sm, ⟨K2, h2⟩, hn⟩
  · have e1 := h1 K1 (by omega)
    exact ⟨K1, by simp only [laws_FnExactEqualOptic.f, e1, Option.bind_some, if_pos h]⟩
  · have hp := nd_eq y
    obtain ⟨r', ⟨K3, h3⟩, h'⟩ := sz_to x1 o1 r h (by omega)
    rcases h' with h' | ⟨h', z, sm', ⟨K4, h4⟩, hn'⟩
    · have e1 := h1 (K1 + K3) (by omega)
      have e3 := h3 (K1 + K3) (by omega)
      have g : ¬ r < 0 := by omega
      exact ⟨K1 + K3, by simp only [laws_FnExactEqualOptic.f, e1, e3, Option.bind_some, if_neg g, if_pos h']⟩
    · have hp' := nd_eq z
      obtain ⟨⟨K5, h5⟩, ⟨K6, h6⟩⟩ := eq_f2 y sm z
      obtain ⟨K7, h7⟩ := eq_self y sm
      obtain ⟨K8, h8⟩ := eq_self z sm'
      have e1 := h1 (K1 + K2 + K3 + K4 + K5 + K6 + K7 + K8) (by omega)
      have e2 := h2 (K1 + K2 + K3 + K4 + K5 + K6 + K7 + K8) (by omega)
      have e3 := h3 (K1 + K2 + K3 + K4 + K5 + K6 + K7 + K8) (by omega)
      have e4 := h4 (K1 + K2 + K3 + K4 + K5 + K6 + K7 + K8) (by omega)
      have e5 := h5 (K1 + K2 + K3 + K4 + K5 + K6 + K7 + K8) (by omega)
      have e6 := h6 (K1 + K2 + K3 + K4 + K5 + K6 + K7 + K8) (by omega)
      have e7 := h7 (K1 + K2 + K3 + K4 + K5 + K6 + K7 + K8) (by omega)
      have e8 := h8 (K1 + K2 + K3 + K4 + K5 + K6 + K7 + K8) (by omega)
      have g : ¬ r < 0 := by omega
      have g' : ¬ r' < 0 := by omega
      refine ⟨K1 + K2 + K3 + K4 + K5 + K6 + K7 + K8, ?_⟩
      simp only [laws_FnExactEqualOptic.f, e1, e2, e3, e4, e5, e6, e7, e8, Option.bind_some, if_neg g, if_neg g', if_true, bne_self_eq_false, Bool.false_eq_true, if_false]

end Go.Proofs.Ytibcndpadbipmaa.Pure
