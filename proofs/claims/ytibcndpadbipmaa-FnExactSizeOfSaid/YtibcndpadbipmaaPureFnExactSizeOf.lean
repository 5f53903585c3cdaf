/- The program's SizeOf answers as the reference's and leaves its argument alone, for every optic: no condition. -/
import Derived.Test.YtibcndpadbipmaaXAx3
import Derived.Test.YtibcndpadbipmaaXAxk
namespace Go.Proofs.Ytibcndpadbipmaa.Pure
open Go.RowKit Go.Proofs.Ytibcndpadbipmaa.XA Go.Proofs.YtibcndpadbipmaaW.PrintWords Go.Proofs.YtibcndpadbipmaaW.PrintLast

set_option linter.unusedSimpArgs false
set_option linter.unusedVariables false

theorem w64 {n : Int} (h : -9223372036854775808 ≤ n) (h' : n ≤ 9223372036854775807) : wrap64 n = n := by unfold wrap64; omega
theorem cast1 (i : Nat) : (i : Int) + 1 = ((i + 1 : Nat) : Int) := by omega
theorem succ_of {d k : Nat} (h : d < k) : ∃ m, k = m + 1 := ⟨k - 1, by omega⟩

theorem rdI (l : List S29) (i : Nat) (h : i < l.length) : rd_T29 l (i : Int) = l[i] := by simp [rd_T29, h]
theorem rdL (l : List S24) (i : Nat) (h : i < l.length) : rd_T24 l (i : Int) = l[i] := by simp [rd_T24, h]

mutual
/-- How many optics an optic holds, itself among them. -/
def nd : S29 → Nat
  | ⟨_, _, _, l⟩ => nds l + 1
def nds : List S29 → Nat
  | [] => 0
  | x :: xs => nd x + nds xs
end

theorem nd_eq (y : S29) : nd y = nds y.f3 + 1 := by cases y; simp only [nd]
theorem nds_drop (l : List S29) (i : Nat) (h : i < l.length) : nds (l.drop i) = nd l[i] + nds (l.drop (i + 1)) := by
  rw [List.drop_eq_getElem_cons h, nds]
theorem nds_len (l : List S29) : l.length ≤ nds l := by
  induction l with
  | nil => simp [nds]
  | cons x xs ih => have := nd_eq x; simp only [nds, List.length_cons]; omega
theorem nds_mem (l : List S29) (z : S29) (h : z ∈ l) : nd z ≤ nds l := by
  induction l with
  | nil => simp at h
  | cons x xs ih =>
    simp only [nds]
    rcases List.mem_cons.1 h with rfl | h
    · omega
    · have := ih h; omega

/-- An optic within bounds, all the way down. -/
inductive Sm : S29 → Prop
  | mk (y : S29) (h0 : -9223372036854775808 ≤ y.f0 ∧ y.f0 ≤ 9223372036854775807) (h1 : y.f1.size ≤ 1048576) (h2 : -9223372036854775808 ≤ y.f2 ∧ y.f2 ≤ 9223372036854775807) (h3 : y.f3.length ≤ 1048576) (h4 : ∀ z ∈ y.f3, Sm z) : Sm y

theorem wf64 {n : Int} (h : (Lit.int .i64 n).wf = true) : -9223372036854775808 ≤ n ∧ n ≤ 9223372036854775807 := by
  simpa [Lit.wf, IntKind.min, IntKind.max, IntKind.signed, IntKind.bits] using h

/-- The argument is weighed; if it is not too heavy, what it is turned into is within bounds. -/
theorem sz_to (x : S24) (ok : Ok24 x) : ∀ left : Int, 0 ≤ left → left ≤ 1048576 →
    ∃ r, Ev (fun k => laws_szOptic.f k x.f0 x.f1 x.f2 x.f3 left) r ∧ (r < 0 ∨ 0 ≤ r ∧ ∃ y, Sm y ∧ Ev (fun k => laws_toOptic.f k x.f0 x.f1 x.f2 x.f3) (y.f0, y.f1, y.f2, y.f3) ∧ (nd y : Int) + r ≤ left + 1) := by
  induction ok with
  | mk x h0 h1 h2 h3 h4 ih =>
    intro left hl0 hl1
    simp only [maxLen] at h1 h3
    by_cases hneg : left - (x.f1.size : Int) < 0
    · refine ⟨-1, ⟨1, fun k hk => ?_⟩, .inl (by omega)⟩
      obtain ⟨k, rfl⟩ := succ_of (show 0 < k by omega)
      simp (disch := omega) only [laws_szOptic.f, w64, if_pos]
    · by_cases hneg2 : left - (x.f1.size : Int) - (x.f3.length : Int) < 0
      · refine ⟨-1, ⟨2, fun k hk => ?_⟩, .inl (by omega)⟩
        obtain ⟨k, rfl⟩ : ∃ m, k = m + 2 := ⟨k - 2, by omega⟩
        simp (disch := omega) only [laws_szOptic.f, laws_szOpticS.f, w64, if_pos, if_neg, Option.bind_some]
      · have loop : ∀ d i (left : Int), i + d = x.f3.length → 0 ≤ left → left ≤ 1048576 → ∃ r, Ev (fun k => laws_szOpticS.l0 k x.f3 left i) r ∧ (r < 0 ∨ 0 ≤ r ∧ ∃ ys : List S29, ys.length = d ∧ (∀ z ∈ ys, Sm z) ∧ (nds ys : Int) + r ≤ left + d ∧
            ∀ p : List S29, p.length = i → Ev (fun k => laws_toOpticS.l0 k x.f3 (p ++ List.replicate d z29) i) (p ++ ys)) := by
          intro d
          induction d with
          | zero =>
            intro i left hi g0 g1
            refine ⟨left, ⟨1, fun k hk => ?_⟩, .inr ⟨g0, [], rfl, by simp, by simp [nds], fun p hp => ⟨1, fun k hk => ?_⟩⟩⟩ <;> obtain ⟨k, rfl⟩ := succ_of (show 0 < k by omega)
            · simp (disch := omega) only [laws_szOpticS.l0, if_neg]
            · simp (disch := omega) only [laws_toOpticS.l0, if_neg]; simp
          | succ d ihd =>
            intro i left hi g0 g1
            have hlt : i < x.f3.length := by omega
            obtain ⟨r1, ⟨K1, e1⟩, hr1⟩ := ih x.f3[i] (List.getElem_mem hlt) left g0 g1
            rcases hr1 with hr1 | ⟨hr1, y, sm, ⟨K2, e2⟩, hn⟩
            · refine ⟨-1, ⟨K1 + 1, fun k hk => ?_⟩, .inl (by omega)⟩
              obtain ⟨k, rfl⟩ := succ_of (show 0 < k by omega)
              simp (disch := omega) only [laws_szOpticS.l0, rdL, if_pos, e1, Option.bind_some]
            · have hy := nd_eq y
              obtain ⟨r, ⟨K3, e3⟩, hr⟩ := ihd (i + 1) r1 (by omega) hr1 (by omega)
              refine ⟨r, ⟨K1 + K3 + 1, fun k hk => ?_⟩, ?_⟩
              · obtain ⟨k, rfl⟩ := succ_of (show 0 < k by omega)
                simp (disch := omega) only [laws_szOpticS.l0, rdL, if_pos, if_neg, e1, Option.bind_some, w64, cast1, e3]
              · rcases hr with hr | ⟨hr, ys, hlen, hsm, hnd, hto⟩
                · exact .inl hr
                · refine .inr ⟨hr, y :: ys, by simp [hlen], ?_, ?_, fun p hp => ?_⟩
                  · intro z hz
                    rcases List.mem_cons.1 hz with rfl | hz
                    · exact sm
                    · exact hsm z hz
                  · simp only [nds]; omega
                  · obtain ⟨K4, e4⟩ := hto (p ++ [y]) (by simp [hp])
                    refine ⟨K2 + K4 + 1, fun k hk => ?_⟩
                    obtain ⟨k, rfl⟩ := succ_of (show 0 < k by omega)
                    have hq : (i : Int) < ((p ++ List.replicate (d + 1) z29).length : Int) := by simp; omega
                    have es : (p ++ List.replicate (d + 1) z29).set i y = (p ++ [y]) ++ List.replicate d z29 := by
                      rw [List.set_append_right _ _ (by omega), hp, Nat.sub_self, List.replicate_succ, List.set_cons_zero, List.append_assoc]; rfl
                    have ey : (⟨y.f0, y.f1, y.f2, y.f3⟩ : S29) = y := by cases y; rfl
                    simp (disch := omega) only [laws_toOpticS.l0, rdL, if_pos, e2, Option.bind_some, w64, cast1, Int.toNat_natCast, if_pos hq, ey, es, e4]
                    simp
        obtain ⟨r, ⟨K1, e1⟩, hr⟩ := loop x.f3.length 0 (left - (x.f1.size : Int) - (x.f3.length : Int)) (by omega) (by omega) (by omega)
        rcases hr with hr | ⟨hr, ys, hlen, hsm, hnd, hto⟩
        · refine ⟨-1, ⟨K1 + 2, fun k hk => ?_⟩, .inl (by omega)⟩
          obtain ⟨k, rfl⟩ : ∃ m, k = m + 2 := ⟨k - 2, by omega⟩
          have e1' := e1 k (by omega)
          simp only [Int.natCast_zero] at e1'
          simp (disch := omega) only [laws_szOptic.f, laws_szOpticS.f, w64, if_neg, if_pos, e1', Option.bind_some]
        · refine ⟨r, ⟨K1 + 2, fun k hk => ?_⟩, .inr ⟨hr, ⟨x.f0, x.f1, x.f2, ys⟩, ?_, ?_, ?_⟩⟩
          · obtain ⟨k, rfl⟩ : ∃ m, k = m + 2 := ⟨k - 2, by omega⟩
            have e1' := e1 k (by omega)
            simp only [Int.natCast_zero] at e1'
            simp (disch := omega) only [laws_szOptic.f, laws_szOpticS.f, w64, if_neg, e1', Option.bind_some]
          · exact .mk _ (wf64 h0) (by show x.f1.size ≤ _; omega) (wf64 h2) (by show ys.length ≤ _; omega) hsm
          · obtain ⟨K2, e2⟩ := hto [] rfl
            refine ⟨K2 + 2, fun k hk => ?_⟩
            obtain ⟨k, rfl⟩ : ∃ m, k = m + 2 := ⟨k - 2, by omega⟩
            have e2' := e2 k (by omega)
            simp only [Int.natCast_zero, List.nil_append] at e2'
            simp (disch := omega) only [laws_toOptic.f, laws_toOpticS.f, if_pos, Int.toNat_natCast, e2', Option.bind_some]
          · simp only [nd]; omega

theorem eq_self (y : S29) (sm : Sm y) : Ev (fun k => laws_eqOptic.f k y.f0 y.f1 y.f2 y.f3 y.f0 y.f1 y.f2 y.f3) true := by
  induction sm with
  | mk y h0 h1 h2 h3 h4 ih =>
    have loop : ∀ d i, i + d = y.f3.length → Ev (fun k => laws_eqOpticS.l0 k y.f3 y.f3 i) true := by
      intro d
      induction d with
      | zero =>
        intro i hi
        refine ⟨1, fun k hk => ?_⟩
        obtain ⟨k, rfl⟩ := succ_of (show 0 < k by omega)
        simp (disch := omega) only [laws_eqOpticS.l0, if_neg]
      | succ d ihd =>
        intro i hi
        have hlt : i < y.f3.length := by omega
        obtain ⟨K1, e1⟩ := ih y.f3[i] (List.getElem_mem hlt)
        obtain ⟨K2, e2⟩ := ihd (i + 1) (by omega)
        refine ⟨K1 + K2 + 1, fun k hk => ?_⟩
        obtain ⟨k, rfl⟩ := succ_of (show 0 < k by omega)
        simp (disch := omega) only [laws_eqOpticS.l0, rdI, if_pos, e1, Option.bind_some, w64, cast1, e2, if_true]
    obtain ⟨K, e⟩ := loop y.f3.length 0 (by omega)
    refine ⟨K + 2, fun k hk => ?_⟩
    obtain ⟨k, rfl⟩ : ∃ m, k = m + 2 := ⟨k - 2, by omega⟩
    have e' := e k (by omega)
    simp only [Int.natCast_zero] at e'
    simp only [laws_eqOptic.f, laws_eqOpticS.f, if_true, e', Option.bind_some]

theorem size_both (y : S29) (sm : Sm y) : ∃ r, Ev (fun k => spec_SizeOf.f k y.f0 y.f1 y.f2 y.f3) r ∧ Ev (fun k => impl_SizeOf.f k y.f0 y.f1 y.f2 y.f3) r := by
  induction sm with
  | mk y h0 h1 h2 h3 h4 ih =>
    have loop : ∀ d i (a : Int), i + d = y.f3.length → ∃ r, Ev (fun k => spec_SizeOf.l0 k a i y.f0 y.f1 y.f2 y.f3) r ∧ Ev (fun k => impl_SizeOf.l0 k a y.f3 y.f3.length i) r := by
      intro d
      induction d with
      | zero =>
        intro i a hi
        refine ⟨a, ⟨1, fun k hk => ?_⟩, ⟨1, fun k hk => ?_⟩⟩ <;> obtain ⟨k, rfl⟩ := succ_of (show 0 < k by omega)
        · simp (disch := omega) only [spec_SizeOf.l0, if_neg]
        · simp (disch := omega) only [impl_SizeOf.l0, if_neg]
      | succ d ihd =>
        intro i a hi
        have hlt : i < y.f3.length := by omega
        obtain ⟨n, ⟨K1, e1⟩, ⟨K2, e2⟩⟩ := ih y.f3[i] (List.getElem_mem hlt)
        obtain ⟨r, ⟨K3, e3⟩, ⟨K4, e4⟩⟩ := ihd (i + 1) (wrap64 (a + n)) (by omega)
        refine ⟨r, ⟨K1 + K3 + 1, fun k hk => ?_⟩, ⟨K2 + K4 + 1, fun k hk => ?_⟩⟩ <;> obtain ⟨k, rfl⟩ := succ_of (show 0 < k by omega)
        · have hw : wrap64 ((i : Int) + 1) = ((i + 1 : Nat) : Int) := by rw [w64 (by omega) (by omega)]; omega
          simp (disch := omega) only [spec_SizeOf.l0, rdI, if_pos, e1, Option.bind_some, hw, e3]
        · have hw : wrap64 ((i : Int) + 1) = ((i + 1 : Nat) : Int) := by rw [w64 (by omega) (by omega)]; omega
          simp (disch := omega) only [impl_SizeOf.l0, rdI, if_pos, e2, Option.bind_some, hw, e4]
    obtain ⟨r, ⟨K3, e3⟩, ⟨K4, e4⟩⟩ := loop y.f3.length 0 1 (by omega)
    refine ⟨r, ⟨K3 + 1, fun k hk => ?_⟩, ⟨K4 + 1, fun k hk => ?_⟩⟩ <;> obtain ⟨k, rfl⟩ := succ_of (show 0 < k by omega)
    · simp only [spec_SizeOf.f]; exact e3 k (by omega)
    · simp only [impl_SizeOf.f]; exact e4 k (by omega)

theorem FnExactSizeOf (x0 : S24) (o0 : Ok24 x0) : ∃ k, laws_FnExactSizeOf.f k x0.f0 x0.f1 x0.f2 x0.f3 = some true := by
  obtain ⟨r, ⟨K1, h1⟩, h⟩ := sz_to x0 o0 1048576 (by omega) (by omega)
  rcases h with h | ⟨h, y, sm, ⟨K2, h2⟩, hn⟩
  · have e1 := h1 K1 (by omega)
    exact ⟨K1, by simp only [laws_FnExactSizeOf.f, e1, Option.bind_some, if_pos h]⟩
  · obtain ⟨n, ⟨K3, h3⟩, ⟨K4, h4⟩⟩ := size_both y sm
    obtain ⟨K5, h5⟩ := eq_self y sm
    have e1 := h1 (K1 + K2 + K3 + K4 + K5) (by omega)
    have e2 := h2 (K1 + K2 + K3 + K4 + K5) (by omega)
    have e3 := h3 (K1 + K2 + K3 + K4 + K5) (by omega)
    have e4 := h4 (K1 + K2 + K3 + K4 + K5) (by omega)
    have e5 := h5 (K1 + K2 + K3 + K4 + K5) (by omega)
    exact ⟨K1 + K2 + K3 + K4 + K5, by simp (disch := omega) only [laws_FnExactSizeOf.f, e1, e2, e3, e4, e5, Option.bind_some, if_neg, if_true]⟩

end Go.Proofs.Ytibcndpadbipmaa.Pure
