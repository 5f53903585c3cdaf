/- The program's DepthOf answers as the reference's and leaves its argument alone, for every optic: no condition. -/
import Derived.Test.YtibcndpadbipmaaXAx4
import Derived.Test.YtibcndpadbipmaaXAxk
namespace Go.Proofs.Ytibcndpadbipmaa.Pure
open Go.RowKit Go.Proofs.Ytibcndpadbipmaa.XA Go.Proofs.YtibcndpadbipmaaW.PrintWords Go.Proofs.YtibcndpadbipmaaW.PrintLast

set_option linter.unusedSimpArgs false
set_option linter.unusedVariables false

theorem w64 {n : Int} (h : -9223372036854775808 ≤ n) (h' : n ≤ 9223372036854775807) : wrap64 n = n := by unfold wrap64; omega
theorem cast1 (i : Nat) : (i : Int) + 1 = ((i + 1 : Nat) : Int) := by omega
theorem succ_of {d k : Nat} (h : d < k) : ∃ m, k = m + 1 := ⟨k - 1, by omega⟩

theorem rdI (l : List S29) (i : Nat) (h : i < l.length) : rd_T29 l (i : Int) = l[i] := by simp [rd_T29, h]
theorem rdL (l : List S24) (i : Nat) (h : i < l.length) : rd_T24 l (i : Int) = l[i] := by simp [rd_T24, h]

mutual
/-- How many optics an optic holds, itself among them. -/
def nd : S29 → Nat
  | ⟨_, _, _, l⟩ => nds l + 1
def nds : List S29 → Nat
  | [] => 0
  | x :: xs => nd x + nds xs
end

theorem nd_eq (y : S29) : nd y = nds y.f3 + 1 := by cases y; simp only [nd]
theorem nds_drop (l : List S29) (i : Nat) (h : i < l.length) : nds (l.drop i) = nd l[i] + nds (l.drop (i + 1)) := by
  rw [List.drop_eq_getElem_cons h, nds]
theorem nds_len (l : List S29) : l.length ≤ nds l := by
  induction l with
  | nil => simp [nds]
  | cons x xs ih => have := nd_eq x; simp only [nds, List.length_cons]; omega
theorem nds_mem (l : List S29) (z : S29) (h : z ∈ l) : nd z ≤ nds l := by
  induction l with
  | nil => simp at h
  | cons x xs ih =>
    simp only [nds]
    rcases List.mem_cons.1 h with rfl | h
    · omega
    · have := ih h; omega

/-- An optic within bounds, all the way down. -/
inductive Sm : S29 → Prop
  | mk (y : S29) (h0 : -9223372036854775808 ≤ y.f0 ∧ y.f0 ≤ 9223372036854775807) (h1 : y.f1.size ≤ 1048576) (h2 : -9223372036854775808 ≤ y.f2 ∧ y.f2 ≤ 9223372036854775807) (h3 : y.f3.length ≤ 1048576) (h4 : ∀ z ∈ y.f3, Sm z) : Sm y

theorem wf64 {n : Int} (h : (Lit.int .i64 n).wf = true) : -9223372036854775808 ≤ n ∧ n ≤ 9223372036854775807 := by
  simpa [Lit.wf, IntKind.min, IntKind.max, IntKind.signed, IntKind.bits] using h

/-- The argument is weighed; if it is not too heavy, what it is turned into is within bounds. -/
theorem sz_to (x : S24) (ok : Ok24 x) : ∀ left : Int, 0 ≤ left → left ≤ 1048576 →
    ∃ r, Ev (fun k => laws_szOptic.f k x.f0 x.f1 x.f2 x.f3 left) r ∧ (r < 0 ∨ 0 ≤ r ∧ ∃ y, Sm y ∧ Ev (fun k => laws_toOptic.f k x.f0 x.f1 x.f2 x.f3) (y.f0, y.f1, y.f2, y.f3) ∧ (nd y : Int) + r ≤ left + 1) := by
  induction ok with
  | mk x h0 h1 h2 h3 h4 ih =>
    intro left hl0 hl1
    simp only [maxLen] at h1 h3
    by_cases hneg : left - (x.f1.size : Int) < 0
    · refine ⟨-1, ⟨1, fun k hk => ?_⟩, .inl (by omega)⟩
      obtain ⟨k, rfl⟩ := succ_of (show 0 < k by omega)
      simp (disch := omega) only [laws_szOptic.f, w64, if_pos]
    · by_cases hneg2 : left - (x.f1.size : Int) - (x.f3.length : Int) < 0
      · refine ⟨-1, ⟨2, fun k hk => ?_⟩, .inl (by omega)⟩
        obtain ⟨k, rfl⟩ : ∃ m, k = m + 2 := ⟨k - 2, by omega⟩
        simp (disch := omega) only [laws_szOptic.f, laws_szOpticS.f, w64, if_pos, if_neg, Option.bind_some]
      · have loop : ∀ d i (left : Int), i + d = x.f3.length → 0 ≤ left → left ≤ 1048576 → ∃ r, Ev (fun k => laws_szOpticS.l0 k x.f3 left i) r ∧ (r < 0 ∨ 0 ≤ r ∧ ∃ ys : List S29, ys.length = d ∧ (∀ z ∈ ys, Sm z) ∧ (nds ys : Int) + r ≤ left + d ∧
            ∀ p : List S29, p.length = i → Ev (fun k => laws_toOpticS.l0 k x.f3 (p ++ List.replicate d z29) i) (p ++ ys)) := by
          intro d
          induction d with
          | zero =>
            intro i left hi g0 g1
            refine ⟨left, ⟨1, fun k hk => ?_⟩, .inr ⟨g0, [], rfl, by simp, by simp [nds], fun p hp => ⟨1, fun k hk => ?_⟩⟩⟩ <;> obtain ⟨k, rfl⟩ := succ_of (show 0 < k by omega)
            · simp (disch := omega) only [laws_szOpticS.l0, if_neg]
            · simp (disch := omega) only [laws_toOpticS.l0, if_neg]; simp
          | succ d ihd =>
            intro i left hi g0 g1
            have hlt : i < x.f3.length := by omega
            obtain ⟨r1, ⟨K1, e1⟩, hr1⟩ := ih x.f3[i] (List.getElem_mem hlt) left g0 g1
            rcases hr1 with hr1 | ⟨hr1, y, sm, ⟨K2, e2⟩, hn⟩
            · refine ⟨-1, ⟨K1 + 1, fun k hk => ?_⟩, .inl (by omega)⟩
              obtain ⟨k, rfl⟩ := succ_of (show 0 < k by omega)
              simp (disch := omega) only [laws_szOpticS.l0, rdL, if_pos, e1, Option.bind_some]
            · have hy := nd_eq y
              obtain ⟨r, ⟨K3, e3⟩, hr⟩ := ihd (i + 1) r1 (by omega) hr1 (by omega)
              refine ⟨r, ⟨K1 + K3 + 1, fun k hk => ?_⟩, ?_⟩
              · obtain ⟨k, rfl⟩ := succ_of (show 0 < k by omega)
                simp (disch := omega) only [laws_szOpticS.l0, rdL, if_pos, if_neg, e1, Option.bind_some, w64, cast1, e3]
              · rcases hr with hr | ⟨hr, ys, hlen, hsm, hnd, hto⟩
                · exact .inl hr
                · refine .inr ⟨hr, y :: ys, by simp [hlen], ?_, ?_, fun p hp => ?_⟩
                  · intro z hz
                    rcases List.mem_cons.1 hz with rfl | hz
                    · exact sm
                    · exact hsm z hz
                  · simp only [nds]; omega
                  · obtain ⟨K4, e4⟩ := hto (p ++ [y]) (by simp [hp])
                    refine ⟨K2 + K4 + 1, fun k hk => ?_⟩
                    obtain ⟨k, rfl⟩ := succ_of (show 0 < k by omega)
                    have hq : (i : Int) < ((p ++ List.replicate (d + 1) z29).length : Int) := by simp; omega
                    have es : (p ++ List.replicate (d + 1) z29).set i y = (p ++ [y]) ++ List.replicate d z29 := by
                      rw [List.set_append_right _ _ (by omega), hp, Nat.sub_self, List.replicate_succ, List.set_cons_zero, List.append_assoc]; rfl
                    have ey : (⟨y.f0, y.f1, y.f2, y.f3⟩ : S29) = y := by cases y; rfl
                    simp (disch := omega) only [laws_toOpticS.l0, rdL, if_pos, e2, Option.bind_some, w64, cast1, Int.toNat_natCast, if_pos hq, ey, es, e4]
                    simp
        obtain ⟨r, ⟨K1, e1⟩, hr⟩ := loop x.f3.length 0 (left - (x.f1.size : Int) - (x.f3.length : Int)) (by omega) (by omega) (by omega)
        rcases hr with hr | ⟨hr, ys, hlen, hsm, hnd, hto⟩
        · refine ⟨-1, ⟨K1 + 2, fun k hk => ?_⟩, .inl (by omega)⟩
          obtain ⟨k, rfl⟩ : ∃ m, k = m + 2 := ⟨k - 2, by omega⟩
          have e1' := e1 k (by omega)
          simp only [Int.natCast_zero] at e1'
          simp (disch := omega) only [laws_szOptic.f, laws_szOpticS.f, w64, if_neg, if_pos, e1', Option.bind_some]
        · refine ⟨r, ⟨K1 + 2, fun k hk => ?_⟩, .inr ⟨hr, ⟨x.f0, x.f1, x.f2, ys⟩, ?_, ?_, ?_⟩⟩
          · obtain ⟨k, rfl⟩ : ∃ m, k = m + 2 := ⟨k - 2, by omega⟩
            have e1' := e1 k (by omega)
            simp only [Int.natCast_zero] at e1'
            simp (disch := omega) only [laws_szOptic.f, laws_szOpticS.f, w64, if_neg, e1', Option.bind_some]
          · exact .mk _ (wf64 h0) (by show x.f1.size ≤ _; omega) (wf64 h2) (by show ys.length ≤ _; omega) hsm
          · obtain ⟨K2, e2⟩ := hto [] rfl
            refine ⟨K2 + 2, fun k hk => ?_⟩
            obtain ⟨k, rfl⟩ : ∃ m, k = m + 2 := ⟨k - 2, by omega⟩
            have e2' := e2 k (by omega)
            simp only [Int.natCast_zero, List.nil_append] at e2'
            simp (disch := omega) only [laws_toOptic.f, laws_toOpticS.f, if_pos, Int.toNat_natCast, e2', Option.bind_some]
          · simp only [nd]; omega

theorem eq_self (y : S29) (sm : Sm y) : Ev (fun k => laws_eqOptic.f k y.f0 y.f1 y.f2 y.f3 y.f0 y.f1 y.f2 y.f3) true := by
  induction sm with
  | mk y h0 h1 h2 h3 h4 ih =>
    have loop : ∀ d i, i + d = y.f3.length → Ev (fun k => laws_eqOpticS.l0 k y.f3 y.f3 i) true := by
      intro d
      induction d with
      | zero =>
        intro i hi
        refine ⟨1, fun k hk => ?_⟩
        obtain ⟨k, rfl⟩ := succ_of (show 0 < k by omega)
        simp (disch := omega) only [laws_eqOpticS.l0, if_neg]
      | succ d ihd =>
        intro i hi
        have hlt : i < y.f3.length := by omega
        obtain ⟨K1, e1⟩ := ih y.f3[i] (List.getElem_mem hlt)
        obtain ⟨K2, e2⟩ := ihd (i + 1) (by omega)
        refine ⟨K1 + K2 + 1, fun k hk => ?_⟩
        obtain ⟨k, rfl⟩ := succ_of (show 0 < k by omega)
        simp (disch := omega) only [laws_eqOpticS.l0, rdI, if_pos, e1, Option.bind_some, w64, cast1, e2, if_true]
    obtain ⟨K, e⟩ := loop y.f3.length 0 (by omega)
    refine ⟨K + 2, fun k hk => ?_⟩
    obtain ⟨k, rfl⟩ : ∃ m, k = m + 2 := ⟨k - 2, by omega⟩
    have e' := e k (by omega)
    simp only [Int.natCast_zero] at e'
    simp only [laws_eqOptic.f, laws_eqOpticS.f, if_true, e', Option.bind_some]

mutual
/-- How deep an optic is. -/
def dp : S29 → Nat
  | ⟨_, _, _, l⟩ => dps l + 1
def dps : List S29 → Nat
  | [] => 0
  | x :: xs => max (dp x) (dps xs)
end

theorem dp_eq (y : S29) : dp y = dps y.f3 + 1 := by cases y; simp only [dp]
theorem dps_drop (l : List S29) (i : Nat) (h : i < l.length) : dps (l.drop i) = max (dp l[i]) (dps (l.drop (i + 1))) := by
  rw [List.drop_eq_getElem_cons h, dps]
mutual
theorem dp_le : ∀ y : S29, dp y ≤ nd y
  | ⟨a, b, c, l⟩ => by simp only [dp, nd]; have := dps_le l; omega
theorem dps_le : ∀ l : List S29, dps l ≤ nds l
  | [] => by simp [dps, nds]
  | x :: xs => by simp only [dps, nds]; have := dp_le x; have := dps_le xs; omega
end

theorem mx_nat (a b : Nat) : mx (a : Int) (b : Int) = ((max a b : Nat) : Int) := by unfold mx; split <;> omega

theorem depth_f (y : S29) (sm : Sm y) (hn : nd y ≤ 1048577) : Ev (fun k => spec_DepthOf.f k y.f0 y.f1 y.f2 y.f3) (dp y) ∧ Ev (fun k => impl_DepthOf.f k y.f0 y.f1 y.f2 y.f3) (dp y) := by
  induction sm with
  | mk y h0 h1 h2 h3 h4 ih =>
    have he := nd_eq y
    have hd := dp_eq y
    have hle := dp_le y
    have loop : ∀ d i (a : Nat), i + d = y.f3.length → a ≤ 1048577 → Ev (fun k => spec_DepthOf.l0 k a i y.f0 y.f1 y.f2 y.f3) ((max a (dps (y.f3.drop i)) + 1 : Nat) : Int) ∧ Ev (fun k => impl_DepthOf.l0 k a y.f3 y.f3.length i) ((max a (dps (y.f3.drop i)) + 1 : Nat) : Int) := by
      intro d
      induction d with
      | zero =>
        intro i a hi ha
        have e0 : dps (y.f3.drop i) = 0 := by rw [List.drop_of_length_le (by omega)]; simp [dps]
        have e1 : max a (dps (y.f3.drop i)) + 1 = a + 1 := by omega
        rw [e1]
        refine ⟨⟨1, fun k hk => ?_⟩, ⟨1, fun k hk => ?_⟩⟩ <;> obtain ⟨k, rfl⟩ := succ_of (show 0 < k by omega)
        · simp (disch := omega) only [spec_DepthOf.l0, if_neg, w64, cast1]
        · simp (disch := omega) only [impl_DepthOf.l0, if_neg, w64, cast1]
      | succ d ihd =>
        intro i a hi ha
        have hlt : i < y.f3.length := by omega
        have hm := nds_mem y.f3 _ (List.getElem_mem hlt)
        have hz := dp_le y.f3[i]
        rw [dps_drop y.f3 i hlt]
        obtain ⟨⟨K1, e1⟩, ⟨K2, e2⟩⟩ := ih y.f3[i] (List.getElem_mem hlt) (by omega)
        obtain ⟨⟨K3, e3⟩, ⟨K4, e4⟩⟩ := ihd (i + 1) (max a (dp y.f3[i])) (by omega) (by omega)
        have ea : max a (max (dp y.f3[i]) (dps (y.f3.drop (i + 1)))) = max (max a (dp y.f3[i])) (dps (y.f3.drop (i + 1))) := by omega
        rw [ea]
        refine ⟨⟨K1 + K3 + 1, fun k hk => ?_⟩, ⟨K2 + K4 + 1, fun k hk => ?_⟩⟩ <;> obtain ⟨k, rfl⟩ := succ_of (show 0 < k by omega)
        · have em : spec_l1Max.f (a : Int) (dp y.f3[i] : Int) = some ((max a (dp y.f3[i]) : Nat) : Int) := by
            unfold spec_l1Max.f; split <;> congr 1 <;> omega
          simp (disch := omega) only [spec_DepthOf.l0, rdI, if_pos, e1, Option.bind_some, em, w64, cast1, e3]
        · simp (disch := omega) only [impl_DepthOf.l0, rdI, if_pos, e2, Option.bind_some, mx_nat, w64, cast1, e4]
    obtain ⟨⟨K3, e3⟩, ⟨K4, e4⟩⟩ := loop y.f3.length 0 0 (by omega) (by omega)
    have ea : max 0 (dps (y.f3.drop 0)) + 1 = dp y := by simp only [List.drop_zero]; omega
    rw [ea] at e3 e4
    refine ⟨⟨K3 + 1, fun k hk => ?_⟩, ⟨K4 + 1, fun k hk => ?_⟩⟩ <;> obtain ⟨k, rfl⟩ := succ_of (show 0 < k by omega)
    · simp only [spec_DepthOf.f]; exact e3 k (by omega)
    · simp only [impl_DepthOf.f]; exact e4 k (by omega)

theorem FnExactDepthOf (x0 : S24) (o0 : Ok24 x0) : ∃ k, laws_FnExactDepthOf.f k x0.f0 x0.f1 x0.f2 x0.f3 = some true := by
  obtain ⟨r, ⟨K1, h1⟩, h⟩ := sz_to x0 o0 1048576 (by omega) (by omega)
  rcases h with h | ⟨h, y, sm, ⟨K2, h2⟩, hn⟩
  · have e1 := h1 K1 (by omega)
    exact ⟨K1, by simp only [laws_FnExactDepthOf.f, e1, Option.bind_some, if_pos h]⟩
  · obtain ⟨⟨K3, h3⟩, ⟨K4, h4⟩⟩ := depth_f y sm (by omega)
    obtain ⟨K5, h5⟩ := eq_self y sm
    have e1 := h1 (K1 + K2 + K3 + K4 + K5) (by omega)
    have e2 := h2 (K1 + K2 + K3 + K4 + K5) (by omega)
    have e3 := h3 (K1 + K2 + K3 + K4 + K5) (by omega)
    have e4 := h4 (K1 + K2 + K3 + K4 + K5) (by omega)
    have e5 := h5 (K1 + K2 + K3 + K4 + K5) (by omega)
    exact ⟨K1 + K2 + K3 + K4 + K5, by simp (disch := omega) only [laws_FnExactDepthOf.f, e1, e2, e3, e4, e5, Option.bind_some, if_neg, if_true]⟩

end Go.Proofs.Ytibcndpadbipmaa.Pure
