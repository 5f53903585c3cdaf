/- The program's FormatValue answers as the reference's and leaves its argument alone, for every value: no condition. -/
import Derived.Test.YtmelflbbeecjfaaXAx18
import Derived.Test.YtmelflbbeecjfaaXAxk
namespace Go.Proofs.Ytmelflbbeecjfaa.Pure
open Go.RowKit Go.Proofs.Ytmelflbbeecjfaa.XA Go.Proofs.YtmelflbbeecjfaaW.PrintWords Go.Proofs.YtmelflbbeecjfaaW.PrintLast

set_option linter.unusedSimpArgs false
set_option linter.unusedVariables false

theorem w64 {n : Int} (h : -9223372036854775808 ≤ n) (h' : n ≤ 9223372036854775807) : wrap64 n = n := by unfold wrap64; omega
theorem cast1 (i : Nat) : (i : Int) + 1 = ((i + 1 : Nat) : Int) := by omega
theorem succ_of {d k : Nat} (h : d < k) : ∃ m, k = m + 1 := ⟨k - 1, by omega⟩

theorem rd_at (l : List ByteArray) (i : Nat) (h : i < l.length) : rdOf ByteArray.empty l (i : Int) = l[i] := by
  simp [rdOf, h]

/-- How many bytes the strings have together. -/
def tot (l : List ByteArray) : Nat := (l.map ByteArray.size).sum

theorem tot_cons (p : ByteArray) (l : List ByteArray) : tot (p :: l) = p.size + tot l := by simp only [tot, List.map_cons, List.sum_cons]

theorem tot_drop (l : List ByteArray) (i : Nat) (h : i < l.length) : tot (l.drop i) = l[i].size + tot (l.drop (i + 1)) := by
  rw [List.drop_eq_getElem_cons h, tot_cons]

theorem sz_loop (l : List ByteArray) (hl : l.length ≤ maxLen) (hs : ∀ s ∈ l, s.size ≤ maxLen) (d : Nat) : ∀ (i : Nat) (left : Int), i + d = l.length → 0 ≤ left → left ≤ 1048576 →
    ∃ r, (∀ k, d < k → laws_szStringS.l0 k l left i = some r) ∧ (r < 0 ∨ 0 ≤ r ∧ (tot (l.drop i) : Int) + r = left) := by
  simp only [maxLen] at hl hs
  induction d with
  | zero =>
    intro i left hi h0 h1
    refine ⟨left, fun k hk => ?_, .inr ⟨h0, ?_⟩⟩
    · obtain ⟨k, rfl⟩ := succ_of hk
      simp (disch := omega) only [laws_szStringS.l0, if_neg]
    · rw [List.drop_of_length_le (by omega)]; simp [tot]
  | succ d ih =>
    intro i left hi h0 h1
    have hlt : i < l.length := by omega
    have hz := hs l[i] (List.getElem_mem hlt)
    by_cases hneg : left - (l[i].size : Int) < 0
    · refine ⟨-1, fun k hk => ?_, .inl (by omega)⟩
      obtain ⟨k, rfl⟩ := succ_of hk
      simp (disch := omega) only [laws_szStringS.l0, rd_at, w64, if_pos]
    · obtain ⟨r, h2, h3⟩ := ih (i + 1) (left - (l[i].size : Int)) (by omega) (by omega) (by omega)
      refine ⟨r, fun k hk => ?_, ?_⟩
      · obtain ⟨k, rfl⟩ := succ_of hk
        simp (disch := omega) only [laws_szStringS.l0, rd_at, w64, if_pos, if_neg, cast1]
        exact h2 k (by omega)
      · rcases h3 with h3 | ⟨h3, h4⟩
        · exact .inl h3
        · refine .inr ⟨h3, ?_⟩
          rw [tot_drop l i hlt]; omega

theorem sz_g (l : List ByteArray) (hl : l.length ≤ maxLen) (hs : ∀ s ∈ l, s.size ≤ maxLen) (left : Int) (g0 : 0 ≤ left) (g1 : left ≤ 1048576) :
    ∃ r, (∀ k, l.length < k → laws_szStringS.f k l left = some r) ∧ (r < 0 ∨ 0 ≤ r ∧ (l.length : Int) + tot l + r = left) := by
  have hl' := hl
  simp only [maxLen] at hl'
  by_cases hneg : left - (l.length : Int) < 0
  · refine ⟨-1, fun k _ => ?_, .inl (by omega)⟩
    simp (disch := omega) only [laws_szStringS.f, w64, if_pos]
  · obtain ⟨r, h2, h3⟩ := sz_loop l hl hs l.length 0 (left - (l.length : Int)) (by omega) (by omega) (by omega)
    refine ⟨r, fun k hk => ?_, ?_⟩
    · simp (disch := omega) only [laws_szStringS.f, w64, if_neg]; exact h2 k hk
    · rcases h3 with h3 | ⟨h3, h4⟩
      · exact .inl h3
      · refine .inr ⟨h3, ?_⟩
        rw [List.drop_zero] at h4; omega

theorem sz_f (l : List ByteArray) (hl : l.length ≤ maxLen) (hs : ∀ s ∈ l, s.size ≤ maxLen) :
    ∃ r, (∀ k, l.length < k → laws_szStringS.f k l 1048576 = some r) ∧ (r < 0 ∨ 0 ≤ r ∧ l.length + tot l ≤ 1048576) := by
  obtain ⟨r, h1, h2⟩ := sz_g l hl hs 1048576 (by omega) (by omega)
  refine ⟨r, h1, ?_⟩
  rcases h2 with h2 | ⟨h2, h3⟩
  · exact .inl h2
  · exact .inr ⟨h2, by omega⟩

theorem tot_mem (r : List ByteArray) (p : ByteArray) (h : p ∈ r) : p.size ≤ tot r := by
  induction r with
  | nil => simp at h
  | cons q r ih =>
    have e := tot_cons q r
    rcases List.mem_cons.1 h with rfl | h
    · omega
    · have := ih h; omega

theorem to_loop (l : List ByteArray) (hl : l.length ≤ 1048576) (d : Nat) : ∀ (i k : Nat), i + d = l.length → d < k →
    laws_toStringS.l0 k l (l.take i ++ List.replicate d (⟨#[]⟩ : ByteArray)) i = some l := by
  induction d with
  | zero =>
    intro i k hi hk
    obtain ⟨k, rfl⟩ := succ_of hk
    simp (disch := omega) only [laws_toStringS.l0, if_neg]
    rw [List.take_of_length_le (by omega)]; simp
  | succ d ih =>
    intro i k hi hk
    obtain ⟨k, rfl⟩ := succ_of hk
    have hlt : i < l.length := by omega
    have hq : (i : Int) < ((l.take i ++ List.replicate (d + 1) (⟨#[]⟩ : ByteArray)).length : Int) := by simp; omega
    have e : (l.take i ++ List.replicate (d + 1) (⟨#[]⟩ : ByteArray)).set i l[i] = l.take (i + 1) ++ List.replicate d (⟨#[]⟩ : ByteArray) := by
      have ht : (l.take i).length = i := by rw [List.length_take]; omega
      rw [List.set_append_right _ _ (by omega), ht, Nat.sub_self, List.replicate_succ, List.set_cons_zero, List.take_succ_eq_append_getElem hlt, List.append_assoc]; rfl
    simp (disch := omega) only [laws_toStringS.l0, rd_at, w64, if_pos, cast1, Int.toNat_natCast, if_pos hq, e]
    exact ih (i + 1) k (by omega) (by omega)

theorem to_f (l : List ByteArray) (hl : l.length ≤ 1048576) (k : Nat) (hk : l.length < k) : laws_toStringS.f k l = some l := by
  simp (disch := omega) only [laws_toStringS.f, if_pos]
  have := to_loop l hl l.length 0 k (by omega) hk
  simpa using this

theorem eq_loop (l : List ByteArray) (hl : l.length ≤ 1099511627776) (d : Nat) : ∀ (i k : Nat), i + d = l.length → d < k → laws_eqStringS.l0 k l l i = some true := by
  induction d with
  | zero =>
    intro i k hi hk
    obtain ⟨k, rfl⟩ := succ_of hk
    simp (disch := omega) only [laws_eqStringS.l0, if_neg]
  | succ d ih =>
    intro i k hi hk
    obtain ⟨k, rfl⟩ := succ_of hk
    simp (disch := omega) only [laws_eqStringS.l0, if_pos, w64, cast1, if_true]
    exact ih (i + 1) k (by omega) (by omega)

theorem eq_f (l : List ByteArray) (hl : l.length ≤ 1099511627776) (k : Nat) (hk : l.length < k) : laws_eqStringS.f k l l = some true := by
  simp only [laws_eqStringS.f, if_true]
  exact eq_loop l hl l.length 0 k (by omega) hk

theorem rdIV (l : List S30) (i : Nat) (h : i < l.length) : rd_T30 l (i : Int) = l[i] := by simp [rd_T30, h]
theorem rdLV (l : List S25) (i : Nat) (h : i < l.length) : rd_T25 l (i : Int) = l[i] := by simp [rd_T25, h]

mutual
/-- How many values it holds, itself among them. -/
def ndV : S30 → Nat
  | ⟨_, _, _, _, l⟩ => ndsV l + 1
def ndsV : List S30 → Nat
  | [] => 0
  | x :: xs => ndV x + ndsV xs
end

theorem ndV_eq (y : S30) : ndV y = ndsV y.f4 + 1 := by cases y; simp only [ndV]
theorem ndsV_drop (l : List S30) (i : Nat) (h : i < l.length) : ndsV (l.drop i) = ndV l[i] + ndsV (l.drop (i + 1)) := by
  rw [List.drop_eq_getElem_cons h, ndsV]
theorem ndsV_len (l : List S30) : l.length ≤ ndsV l := by
  induction l with
  | nil => simp [ndsV]
  | cons x xs ih => have := ndV_eq x; simp only [ndsV, List.length_cons]; omega
theorem ndsV_mem (l : List S30) (z : S30) (h : z ∈ l) : ndV z ≤ ndsV l := by
  induction l with
  | nil => simp at h
  | cons x xs ih =>
    simp only [ndsV]
    rcases List.mem_cons.1 h with rfl | h
    · omega
    · have := ih h; omega

/-- Within bounds, all the way down. -/
inductive SmV : S30 → Prop
  | mk (y : S30) (h0 : -9223372036854775808 ≤ y.f0 ∧ y.f0 ≤ 9223372036854775807) (h1 : -9223372036854775808 ≤ y.f1 ∧ y.f1 ≤ 9223372036854775807) (h2 : y.f2.size ≤ 1048576) (h3 : y.f3.length ≤ 1048576 ∧ ∀ s ∈ y.f3, s.size ≤ 1048576) (h4 : y.f4.length ≤ 1048576) (h5 : ∀ z ∈ y.f4, SmV z) : SmV y

theorem wf64V {n : Int} (h : (Lit.int .i64 n).wf = true) : -9223372036854775808 ≤ n ∧ n ≤ 9223372036854775807 := by
  simpa [Lit.wf, IntKind.min, IntKind.max, IntKind.signed, IntKind.bits] using h

theorem szV_to (x : S25) (ok : Ok25 x) : ∀ left : Int, 0 ≤ left → left ≤ 1048576 →
    ∃ r, Ev (fun k => laws_szValue.f k x.f0 x.f1 x.f2 x.f3 x.f4 left) r ∧ (r < 0 ∨ 0 ≤ r ∧ ∃ y, SmV y ∧ Ev (fun k => laws_toValue.f k x.f0 x.f1 x.f2 x.f3 x.f4) (y.f0, y.f1, y.f2, y.f3, y.f4) ∧ (ndV y : Int) + r ≤ left + 1) := by
  induction ok with
  | mk x h0 h1 h2 h3 h4 h5 h6 ih =>
    intro left hl0 hl1
    have bl := h5
    simp only [maxLen] at bl
    have bn := h2
    simp only [maxLen] at bn
    by_cases hneg : left - (x.f2.size : Int) < 0
    · refine ⟨-1, ⟨1, fun k hk => ?_⟩, .inl (by omega)⟩
      obtain ⟨k, rfl⟩ := succ_of (show 0 < k by omega)
      simp (disch := omega) only [laws_szValue.f, w64, if_pos]
    have bneg : 0 ≤ left - (x.f2.size : Int) := by omega
    obtain ⟨rs, e0, q0⟩ := sz_g x.f3 h3 h4 (left - (x.f2.size : Int)) (by omega) (by omega)
    rcases q0 with q0 | ⟨q0, q1⟩
    · refine ⟨-1, ⟨x.f3.length + 2, fun k hk => ?_⟩, .inl (by omega)⟩
      obtain ⟨k, rfl⟩ := succ_of (show 0 < k by omega)
      have e0' := e0 k (by omega)
      simp (disch := omega) only [laws_szValue.f, w64, if_neg, e0', Option.bind_some, if_pos]
    by_cases hneg2 : rs - (x.f4.length : Int) < 0
    · refine ⟨-1, ⟨x.f3.length + 3, fun k hk => ?_⟩, .inl (by omega)⟩
      obtain ⟨k, rfl⟩ : ∃ m, k = m + 2 := ⟨k - 2, by omega⟩
      have e0' := e0 (k + 1) (by omega)
      simp (disch := omega) only [laws_szValue.f, laws_szValueS.f, w64, e0', if_pos, if_neg, Option.bind_some]
    have loop : ∀ d i (left : Int), i + d = x.f4.length → 0 ≤ left → left ≤ 1048576 → ∃ r, Ev (fun k => laws_szValueS.l0 k x.f4 left i) r ∧ (r < 0 ∨ 0 ≤ r ∧ ∃ ys : List S30, ys.length = d ∧ (∀ z ∈ ys, SmV z) ∧ (ndsV ys : Int) + r ≤ left + d ∧
        ∀ p : List S30, p.length = i → Ev (fun k => laws_toValueS.l0 k x.f4 (p ++ List.replicate d z30) i) (p ++ ys)) := by
      intro d
      induction d with
      | zero =>
        intro i left hi g0 g1
        refine ⟨left, ⟨1, fun k hk => ?_⟩, .inr ⟨g0, [], rfl, by simp, by simp [ndsV], fun p hp => ⟨1, fun k hk => ?_⟩⟩⟩ <;> obtain ⟨k, rfl⟩ := succ_of (show 0 < k by omega)
        · simp (disch := omega) only [laws_szValueS.l0, if_neg]
        · simp (disch := omega) only [laws_toValueS.l0, if_neg]; simp
      | succ d ihd =>
        intro i left hi g0 g1
        have hlt : i < x.f4.length := by omega
        obtain ⟨r1, ⟨K1, e1⟩, hr1⟩ := ih x.f4[i] (List.getElem_mem hlt) left g0 g1
        rcases hr1 with hr1 | ⟨hr1, y, sm, ⟨K2, e2⟩, hn⟩
        · refine ⟨-1, ⟨K1 + 1, fun k hk => ?_⟩, .inl (by omega)⟩
          obtain ⟨k, rfl⟩ := succ_of (show 0 < k by omega)
          simp (disch := omega) only [laws_szValueS.l0, rdLV, if_pos, e1, Option.bind_some]
        · have hy := ndV_eq y
          obtain ⟨r, ⟨K3, e3⟩, hr⟩ := ihd (i + 1) r1 (by omega) hr1 (by omega)
          refine ⟨r, ⟨K1 + K3 + 1, fun k hk => ?_⟩, ?_⟩
          · obtain ⟨k, rfl⟩ := succ_of (show 0 < k by omega)
            simp (disch := omega) only [laws_szValueS.l0, rdLV, if_pos, if_neg, e1, Option.bind_some, w64, cast1, e3]
          · rcases hr with hr | ⟨hr, ys, hlen, hsm, hnd, hto⟩
            · exact .inl hr
            · refine .inr ⟨hr, y :: ys, by simp [hlen], ?_, ?_, fun p hp => ?_⟩
              · intro z hz
                rcases List.mem_cons.1 hz with rfl | hz
                · exact sm
                · exact hsm z hz
              · simp only [ndsV]; omega
              · obtain ⟨K4, e4⟩ := hto (p ++ [y]) (by simp [hp])
                refine ⟨K2 + K4 + 1, fun k hk => ?_⟩
                obtain ⟨k, rfl⟩ := succ_of (show 0 < k by omega)
                have hq : (i : Int) < ((p ++ List.replicate (d + 1) z30).length : Int) := by simp; omega
                have es : (p ++ List.replicate (d + 1) z30).set i y = (p ++ [y]) ++ List.replicate d z30 := by
                  rw [List.set_append_right _ _ (by omega), hp, Nat.sub_self, List.replicate_succ, List.set_cons_zero, List.append_assoc]; rfl
                have ey : (⟨y.f0, y.f1, y.f2, y.f3, y.f4⟩ : S30) = y := by cases y; rfl
                simp (disch := omega) only [laws_toValueS.l0, rdLV, if_pos, e2, Option.bind_some, w64, cast1, Int.toNat_natCast, if_pos hq, ey, es, e4]
                simp
    obtain ⟨r, ⟨K1, e1⟩, hr⟩ := loop x.f4.length 0 (rs - (x.f4.length : Int)) (by omega) (by omega) (by omega)
    rcases hr with hr | ⟨hr, ys, hlen, hsm, hnd, hto⟩
    · refine ⟨-1, ⟨K1 + x.f3.length + 3, fun k hk => ?_⟩, .inl (by omega)⟩
      obtain ⟨k, rfl⟩ : ∃ m, k = m + 2 := ⟨k - 2, by omega⟩
      have e1' := e1 k (by omega)
      have e0' := e0 (k + 1) (by omega)
      simp only [Int.natCast_zero] at e1'
      simp (disch := omega) only [laws_szValue.f, laws_szValueS.f, w64, e0', if_neg, if_pos, e1', Option.bind_some]
    · refine ⟨r, ⟨K1 + x.f3.length + 3, fun k hk => ?_⟩, .inr ⟨hr, ⟨x.f0, x.f1, x.f2, x.f3, ys⟩, ?_, ?_, ?_⟩⟩
      · obtain ⟨k, rfl⟩ : ∃ m, k = m + 2 := ⟨k - 2, by omega⟩
        have e1' := e1 k (by omega)
        have e0' := e0 (k + 1) (by omega)
        simp only [Int.natCast_zero] at e1'
        simp (disch := omega) only [laws_szValue.f, laws_szValueS.f, w64, e0', if_neg, e1', Option.bind_some]
      · exact .mk _ (wf64V h0) (wf64V h1) (by show x.f2.size ≤ _; omega) ⟨by show x.f3.length ≤ _; omega, fun s hs => by have := tot_mem x.f3 s hs; omega⟩ (by show ys.length ≤ _; omega) hsm
      · obtain ⟨K2, e2⟩ := hto [] rfl
        refine ⟨K2 + x.f3.length + 3, fun k hk => ?_⟩
        obtain ⟨k, rfl⟩ : ∃ m, k = m + 2 := ⟨k - 2, by omega⟩
        have e2' := e2 k (by omega)
        have t0 := to_f x.f3 (by omega) (k + 1) (by omega)
        simp only [Int.natCast_zero, List.nil_append] at e2'
        simp (disch := omega) only [laws_toValue.f, laws_toValueS.f, t0, if_pos, Int.toNat_natCast, e2', Option.bind_some]
      · simp only [ndV]; omega

theorem eqV_self (y : S30) (sm : SmV y) : Ev (fun k => laws_eqValue.f k y.f0 y.f1 y.f2 y.f3 y.f4 y.f0 y.f1 y.f2 y.f3 y.f4) true := by
  induction sm with
  | mk y h0 h1 h2 h3 h3_ h4_ ih =>
    have loop : ∀ d i, i + d = y.f4.length → Ev (fun k => laws_eqValueS.l0 k y.f4 y.f4 i) true := by
      intro d
      induction d with
      | zero =>
        intro i hi
        refine ⟨1, fun k hk => ?_⟩
        obtain ⟨k, rfl⟩ := succ_of (show 0 < k by omega)
        simp (disch := omega) only [laws_eqValueS.l0, if_neg]
      | succ d ihd =>
        intro i hi
        have hlt : i < y.f4.length := by omega
        obtain ⟨K1, e1⟩ := ih y.f4[i] (List.getElem_mem hlt)
        obtain ⟨K2, e2⟩ := ihd (i + 1) (by omega)
        refine ⟨K1 + K2 + 1, fun k hk => ?_⟩
        obtain ⟨k, rfl⟩ := succ_of (show 0 < k by omega)
        simp (disch := omega) only [laws_eqValueS.l0, rdIV, if_pos, e1, Option.bind_some, w64, cast1, e2, if_true]
    obtain ⟨K, e⟩ := loop y.f4.length 0 (by omega)
    refine ⟨K + y.f3.length + 3, fun k hk => ?_⟩
    obtain ⟨k, rfl⟩ : ∃ m, k = m + 2 := ⟨k - 2, by omega⟩
    have e' := e k (by omega)
    have e0 := eq_f y.f3 (by have := h3.1; omega) (k + 1) (by omega)
    simp only [Int.natCast_zero] at e'
    simp only [laws_eqValue.f, laws_eqValueS.f, e0, if_true, e', Option.bind_some]

theorem sizeV_f (y : S30) (sm : SmV y) (hn : ndV y ≤ 1048577) : Ev (fun k => spec_SizeOfValue.f k y.f0 y.f1 y.f2 y.f3 y.f4) (ndV y) ∧ Ev (fun k => impl_SizeOfValue.f k y.f0 y.f1 y.f2 y.f3 y.f4) (ndV y) := by
  induction sm with
  | mk y g0 g1 g2 g3 h3 h4 ih =>
    have he := ndV_eq y
    have loop : ∀ d i (a : Int), i + d = y.f4.length → 0 ≤ a → a + ndsV (y.f4.drop i) ≤ 1048577 → Ev (fun k => spec_SizeOfValue.l0 k a i y.f0 y.f1 y.f2 y.f3 y.f4) (a + ndsV (y.f4.drop i)) ∧ Ev (fun k => impl_SizeOfValue.l0 k a y.f4 y.f4.length i) (a + ndsV (y.f4.drop i)) := by
      intro d
      induction d with
      | zero =>
        intro i a hi ha hb
        have e0 : (ndsV (y.f4.drop i) : Int) = 0 := by rw [List.drop_of_length_le (by omega)]; simp [ndsV]
        rw [e0, Int.add_zero]
        refine ⟨⟨1, fun k hk => ?_⟩, ⟨1, fun k hk => ?_⟩⟩ <;> obtain ⟨k, rfl⟩ := succ_of (show 0 < k by omega)
        · simp (disch := omega) only [spec_SizeOfValue.l0, if_neg]
        · simp (disch := omega) only [impl_SizeOfValue.l0, if_neg]
      | succ d ihd =>
        intro i a hi ha hb
        have hlt : i < y.f4.length := by omega
        rw [ndsV_drop y.f4 i hlt] at hb ⊢
        have hm := ndsV_mem y.f4 _ (List.getElem_mem hlt)
        obtain ⟨⟨K1, e1⟩, ⟨K2, e2⟩⟩ := ih y.f4[i] (List.getElem_mem hlt) (by omega)
        obtain ⟨⟨K3, e3⟩, ⟨K4, e4⟩⟩ := ihd (i + 1) (a + ndV y.f4[i]) (by omega) (by omega) (by omega)
        have ea : a + ((ndV y.f4[i] + ndsV (y.f4.drop (i + 1)) : Nat) : Int) = a + ndV y.f4[i] + ndsV (y.f4.drop (i + 1)) := by omega
        rw [ea]
        refine ⟨⟨K1 + K3 + 1, fun k hk => ?_⟩, ⟨K2 + K4 + 1, fun k hk => ?_⟩⟩ <;> obtain ⟨k, rfl⟩ := succ_of (show 0 < k by omega)
        · simp (disch := omega) only [spec_SizeOfValue.l0, rdIV, if_pos, e1, Option.bind_some, w64, cast1, e3]
        · simp (disch := omega) only [impl_SizeOfValue.l0, rdIV, if_pos, e2, Option.bind_some, w64, cast1, e4]
    obtain ⟨⟨K3, e3⟩, ⟨K4, e4⟩⟩ := loop y.f4.length 0 1 (by omega) (by omega) (by simp only [List.drop_zero]; omega)
    have ea : (1 : Int) + ndsV (y.f4.drop 0) = ndV y := by simp only [List.drop_zero]; omega
    rw [ea] at e3 e4
    refine ⟨⟨K3 + 1, fun k hk => ?_⟩, ⟨K4 + 1, fun k hk => ?_⟩⟩ <;> obtain ⟨k, rfl⟩ := succ_of (show 0 < k by omega)
    · simp only [spec_SizeOfValue.f]; exact e3 k (by omega)
    · simp only [impl_SizeOfValue.f]; exact e4 k (by omega)


theorem leftV_f (y : S30) (sm : SmV y) (hn : ndV y ≤ 1048577) : ∀ left : Int, 0 ≤ left → left ≤ 1048576 → ∃ r, Ev (fun k => spec_l5Left.f k y.f0 y.f1 y.f2 y.f3 y.f4 left) r ∧ r ≤ 1048576 ∧ ((ndV y : Int) ≤ left → r = left - ndV y) ∧ (left < (ndV y : Int) → r < 0) := by
  induction sm with
  | mk y g0 g1 g2 g3 h3 h4 ih =>
    intro left g0 g1
    have he := ndV_eq y
    have loop : ∀ d i (a : Int), i + d = y.f4.length → -1 ≤ a → a ≤ 1048576 → ∃ r, Ev (fun k => spec_l5Left.l0 k a i y.f0 y.f1 y.f2 y.f3 y.f4) r ∧ r ≤ 1048576 ∧ ((ndsV (y.f4.drop i) : Int) ≤ a → r = a - ndsV (y.f4.drop i)) ∧ (a < (ndsV (y.f4.drop i) : Int) → r < 0) := by
      intro d
      induction d with
      | zero =>
        intro i a hi ha hb
        have e0 : (ndsV (y.f4.drop i) : Int) = 0 := by rw [List.drop_of_length_le (by omega)]; simp [ndsV]
        rw [e0]
        refine ⟨a, ⟨1, fun k hk => ?_⟩, hb, fun _ => by omega, fun h => h⟩
        obtain ⟨k, rfl⟩ := succ_of (show 0 < k by omega)
        simp (disch := omega) only [spec_l5Left.l0, if_neg]
      | succ d ihd =>
        intro i a hi ha hb
        have hlt : i < y.f4.length := by omega
        rw [ndsV_drop y.f4 i hlt]
        have hm := ndsV_mem y.f4 _ (List.getElem_mem hlt)
        have hp := ndV_eq y.f4[i]
        by_cases hneg : a < 0
        · refine ⟨a, ⟨1, fun k hk => ?_⟩, hb, fun _ => by omega, fun _ => hneg⟩
          obtain ⟨k, rfl⟩ := succ_of (show 0 < k by omega)
          simp (disch := omega) only [spec_l5Left.l0, if_pos, if_neg]
        · obtain ⟨r1, ⟨K1, e1⟩, hb1, q1, q2⟩ := ih y.f4[i] (List.getElem_mem hlt) (by omega) a (by omega) hb
          by_cases hr : (ndV y.f4[i] : Int) ≤ a
          · have hr1 := q1 hr
            obtain ⟨r, ⟨K3, e3⟩, hb3, q3, q4⟩ := ihd (i + 1) r1 (by omega) (by omega) hb1
            refine ⟨r, ⟨K1 + K3 + 1, fun k hk => ?_⟩, hb3, fun h => by rw [q3 (by omega)]; omega, fun h => q4 (by omega)⟩
            obtain ⟨k, rfl⟩ := succ_of (show 0 < k by omega)
            simp (disch := omega) only [spec_l5Left.l0, rdIV, if_pos, e1, Option.bind_some, w64, cast1, e3]
          · have hr1 := q2 (by omega)
            refine ⟨r1, ⟨K1 + 2, fun k hk => ?_⟩, hb1, fun h => by omega, fun _ => hr1⟩
            obtain ⟨k, rfl⟩ : ∃ m, k = m + 2 := ⟨k - 2, by omega⟩
            have e1' := e1 (k + 1) (by omega)
            simp (disch := omega) only [spec_l5Left.l0, rdIV, if_pos, e1', Option.bind_some, w64, cast1, if_neg, ite_self]
    obtain ⟨r, ⟨K3, e3⟩, hb3, q3, q4⟩ := loop y.f4.length 0 (left - 1) (by omega) (by omega) (by omega)
    rw [List.drop_zero] at q3 q4
    refine ⟨r, ⟨K3 + 1, fun k hk => ?_⟩, hb3, fun h => by rw [q3 (by omega)]; omega, fun h => q4 (by omega)⟩
    obtain ⟨k, rfl⟩ := succ_of (show 0 < k by omega)
    have e3' := e3 k (by omega)
    simp only [Int.natCast_zero] at e3'
    simp (disch := omega) only [spec_l5Left.f, w64, e3']


/-- May this byte stand at this place of a name? -/
def okb (s : ByteArray) (i : Int) : Bool := if 97 ≤ bt s i ∧ bt s i ≤ 122 then true else if i = 0 then false else decide (48 ≤ bt s i ∧ bt s i ≤ 57)

/-- So many bytes from a place on may stand in a name. -/
def okn (s : ByteArray) : Nat → Int → Bool
  | 0, _ => true
  | d + 1, i => okb s i && okn s d (i + 1)

theorem byte_ok (s : ByteArray) (i : Int) : impl_nameByte.f (bt s i) (i == 0) = some (okb s i) := by
  unfold impl_nameByte.f okb
  by_cases h0 : i = 0
  · subst h0
    by_cases h1 : bt s 0 ≥ 97 <;> by_cases h2 : bt s 0 ≤ 122 <;> simp [h1, h2]
  · by_cases h1 : bt s i ≥ 97 <;> by_cases h2 : bt s i ≤ 122 <;> by_cases h3 : bt s i ≥ 48 <;> by_cases h4 : bt s i ≤ 57 <;> first | (exfalso; omega) | simp [h0, h1, h2, h3, h4]

theorem okb_ite (s : ByteArray) (i : Int) : (if bt s i ≥ 97 then (if bt s i ≤ 122 then true else (if i = 0 then false else (if bt s i < 48 then false else (if bt s i > 57 then false else true)))) else (if i = 0 then false else (if bt s i < 48 then false else (if bt s i > 57 then false else true)))) = okb s i := by
  unfold okb
  by_cases h2 : bt s i ≥ 97 <;> by_cases h3 : bt s i ≤ 122 <;> by_cases h5 : bt s i < 48 <;> by_cases h6 : bt s i > 57 <;> by_cases h4 : i = 0 <;> first | (exfalso; omega) | (have e1 : 48 ≤ bt s i := by omega) | skip
  all_goals first | (have e2 : ¬ 48 ≤ bt s i := by omega) | skip
  all_goals first | (have e3 : bt s i ≤ 57 := by omega) | (have e3 : ¬ bt s i ≤ 57 := by omega)
  all_goals simp [*]

theorem name_spec_loop (s : ByteArray) (hn : s.size ≤ 140737488351232) (d : Nat) : ∀ (k : Nat) (i : Int), 0 ≤ i → i + d = s.size → d < k →
    spec_IsName.l0 k s i = some (okn s d i && (decide (1 ≤ s.size) && decide (s.size ≤ 4))) := by
  induction d with
  | zero =>
    intro k i h0 h1 hk
    obtain ⟨k, rfl⟩ := succ_of hk
    simp only [spec_IsName.l0, spec_l1In.f]
    rw [if_neg (by omega)]
    have e : decide ((s.size : Int) ≤ 4) = decide (s.size ≤ 4) := decide_eq_decide.mpr (by omega)
    by_cases h : (s.size : Int) ≥ 1
    · have h' : 1 ≤ s.size := by omega
      rw [if_pos h, e]; simp [h', okn]
    · have h' : s.size = 0 := by omega
      rw [if_neg h]; simp [h', okn]
  | succ d ih =>
    intro k i h0 h1 hk
    obtain ⟨k, rfl⟩ := succ_of hk
    have hi := ih k (i + 1) (by omega) (by omega) (by omega)
    simp (disch := omega) only [spec_IsName.l0, if_pos, w64]
    rw [hi]
    simp only [okn]
    rw [← okb_ite]
    repeat' split
    all_goals first | (exfalso; omega) | simp_all

theorem name_impl_loop (s : ByteArray) (hn : s.size ≤ 140737488351232) (d : Nat) : ∀ (k : Nat) (i : Int), 0 ≤ i → i + d = s.size → d < k →
    impl_IsName.l0 k s (s.size : Int) i = some (okn s d i) := by
  induction d with
  | zero =>
    intro k i h0 h1 hk
    obtain ⟨k, rfl⟩ := succ_of hk
    simp (disch := omega) only [impl_IsName.l0, if_neg, okn]
  | succ d ih =>
    intro k i h0 h1 hk
    obtain ⟨k, rfl⟩ := succ_of hk
    have hi := ih k (i + 1) (by omega) (by omega) (by omega)
    simp (disch := omega) only [impl_IsName.l0, if_pos, w64, byte_ok]
    rw [hi]
    simp only [okn, Option.bind_some]
    cases okb s i <;> simp

/-- Is this a name? -/
def nmok (s : ByteArray) : Bool := okn s s.size 0 && (decide (1 ≤ s.size) && decide (s.size ≤ 4))

theorem name_spec (s : ByteArray) (hn : s.size ≤ 140737488351232) (k : Nat) (hk : s.size < k) : spec_IsName.f k s = some (nmok s) :=
  name_spec_loop s hn s.size k 0 (by omega) (by omega) hk

theorem name_impl (s : ByteArray) (hn : s.size ≤ 140737488351232) (k : Nat) (hk : s.size + 1 < k) : impl_IsName.f k s = some (nmok s) := by
  obtain ⟨k, rfl⟩ := succ_of hk
  have hi := name_impl_loop s hn s.size k 0 (by omega) (by omega) (by omega)
  unfold nmok
  simp only [impl_IsName.f, impl_IsName.j0, hi]
  by_cases h : (s.size : Int) = 0
  · have h' : s.size = 0 := by omega
    rw [if_pos h]; simp [h']
  · have h' : 1 ≤ s.size := by omega
    rw [if_neg h]
    by_cases h4 : (s.size : Int) > 4
    · have h4' : ¬ s.size ≤ 4 := by omega
      simp [h4, h4']
    · have h4' : s.size ≤ 4 := by omega
      simp [h', h4']; omega

theorem nmok_empty : nmok ⟨#[]⟩ = false := by decide

/-- Do the texts from the i-th on ascend, so many of them? -/
def ascN (l : List ByteArray) : Nat → Nat → Bool
  | 0, _ => true
  | d + 1, i => if i < l.length then (Op.bytesLess ((rdOf ByteArray.empty l ((i : Int) - 1)).toList) ((rdOf ByteArray.empty l (i : Int)).toList) && ascN l d (i + 1)) else true
def asc (l : List ByteArray) : Bool := ascN l l.length 1

theorem asc_loop (l : List ByteArray) (hl : l.length ≤ 1048576) (d : Nat) : ∀ (i : Nat), 1 ≤ i → l.length ≤ i + d → ∀ k, d < k → spec_AreAscending.l0 k l i = some (ascN l d i) ∧ impl_AreAscending.l0 k l i = some (ascN l d i) := by
  induction d with
  | zero =>
    intro i h1 hi k hk
    obtain ⟨k, rfl⟩ := succ_of hk
    simp (disch := omega) only [spec_AreAscending.l0, impl_AreAscending.l0, if_neg, ascN, and_self]
  | succ d ih =>
    intro i h1 hi k hk
    obtain ⟨k, rfl⟩ := succ_of hk
    by_cases hlt : i < l.length
    · obtain ⟨r1, r2⟩ := ih (i + 1) (by omega) (by omega) k (by omega)
      by_cases he : (Op.bytesLess ((rdOf ByteArray.empty l ((i : Int) - 1)).toList) ((rdOf ByteArray.empty l (i : Int)).toList)) = true
      · simp (disch := omega) only [spec_AreAscending.l0, impl_AreAscending.l0, ascN, if_pos hlt, w64, cast1, if_pos, if_pos he, r1, r2, he, Bool.true_and, if_true, and_self]
      · simp (disch := omega) only [spec_AreAscending.l0, impl_AreAscending.l0, ascN, if_pos hlt, w64, cast1, if_pos, if_neg he, Bool.eq_false_iff.mpr he, Bool.false_and, Bool.false_eq_true, if_false, and_self]
    · simp (disch := omega) only [spec_AreAscending.l0, impl_AreAscending.l0, ascN, if_neg hlt, if_neg, and_self]

theorem asc_f (l : List ByteArray) (hl : l.length ≤ 1048576) (k : Nat) (hk : l.length < k) : spec_AreAscending.f k l = some (asc l) ∧ impl_AreAscending.f k l = some (asc l) := asc_loop l hl l.length 1 (by omega) (by omega) k hk

/-- Are these labels in order? -/
def lab (l : List ByteArray) : Bool := l.all nmok && (decide (1 ≤ l.length) && decide (l.length ≤ 4) && asc l)

theorem l1In_f (a b c : Int) : spec_l1In.f a b c = some (decide (b ≤ a) && decide (a ≤ c)) := by
  unfold spec_l1In.f
  by_cases h : a ≥ b
  · have h' : b ≤ a := h
    simp [h']
  · have h' : ¬ b ≤ a := h
    simp [h']

theorem all_drop (l : List ByteArray) (i : Nat) (h : i < l.length) : (l.drop i).all nmok = (nmok l[i] && (l.drop (i + 1)).all nmok) := by
  rw [List.drop_eq_getElem_cons h, List.all_cons]

theorem lab_f (l : List ByteArray) (hl : l.length ≤ 1048576) (hs : ∀ s ∈ l, s.size ≤ 1048576) : Ev (fun k => spec_l3Labels.f k l) (lab l) ∧ Ev (fun k => impl_labelsOk.f k l) (lab l) := by
  obtain ⟨K, hK⟩ : ∃ K, ∀ s ∈ l, s.size + 1 < K := ⟨tot l + 2, fun s h => by have := tot_mem l s h; omega⟩
  have c1 : decide ((1 : Int) ≤ (l.length : Int)) = decide (1 ≤ l.length) := decide_eq_decide.mpr (by omega)
  have c4 : decide ((l.length : Int) ≤ 4) = decide (l.length ≤ 4) := decide_eq_decide.mpr (by omega)
  have loop1 : ∀ d i, i + d = l.length → ∀ k, K + l.length + d + 1 < k → spec_l3Labels.l0 k l i = some ((l.drop i).all nmok && (decide (1 ≤ l.length) && decide (l.length ≤ 4) && asc l)) := by
    intro d
    induction d with
    | zero =>
      intro i hi k hk
      obtain ⟨k, rfl⟩ := succ_of (show 0 < k by omega)
      have ha := (asc_f l hl k (by omega)).1
      rw [List.drop_of_length_le (by omega)]
      simp (disch := omega) only [spec_l3Labels.l0, if_neg, l1In_f, Option.bind_some, ha, c1, c4]
      cases h : (decide (1 ≤ l.length) && decide (l.length ≤ 4)) <;> simp
    | succ d ih =>
      intro i hi k hk
      obtain ⟨k, rfl⟩ := succ_of (show 0 < k by omega)
      have hlt : i < l.length := by omega
      have hm := hs _ (List.getElem_mem hlt)
      have hm2 := hK _ (List.getElem_mem hlt)
      have hn := name_spec l[i] (by omega) k (by omega)
      have e := ih (i + 1) (by omega) k (by omega)
      rw [all_drop l i hlt]
      simp (disch := omega) only [spec_l3Labels.l0, rd_at, if_pos, hn, Option.bind_some, w64, cast1, e]
      cases nmok l[i] <;> simp
  have loop2 : ∀ d i, i + d = l.length → ∀ k, K + l.length + d + 1 < k → impl_labelsOk.l0 k l (l.length : Int) i = some ((l.drop i).all nmok) := by
    intro d
    induction d with
    | zero =>
      intro i hi k hk
      obtain ⟨k, rfl⟩ := succ_of (show 0 < k by omega)
      rw [List.drop_of_length_le (by omega)]
      simp (disch := omega) only [impl_labelsOk.l0, if_neg, List.all_nil]
    | succ d ih =>
      intro i hi k hk
      obtain ⟨k, rfl⟩ := succ_of (show 0 < k by omega)
      have hlt : i < l.length := by omega
      have hm := hs _ (List.getElem_mem hlt)
      have hm2 := hK _ (List.getElem_mem hlt)
      have hn := name_impl l[i] (by omega) k (by omega)
      have e := ih (i + 1) (by omega) k (by omega)
      rw [all_drop l i hlt]
      simp (disch := omega) only [impl_labelsOk.l0, rd_at, if_pos, hn, Option.bind_some, w64, cast1, e]
      cases nmok l[i] <;> simp
  refine ⟨⟨K + l.length + l.length + 2, fun k hk => ?_⟩, ⟨K + l.length + l.length + 3, fun k hk => ?_⟩⟩
  · exact loop1 l.length 0 (by omega) k (by omega)
  · have e := loop2 l.length 0 (by omega)
    simp only [List.drop_zero, Int.natCast_zero] at e
    obtain ⟨k, rfl⟩ := succ_of (show 0 < k by omega)
    have ha := (asc_f l hl (k + 1) (by omega)).2
    have e' := e k (by omega)
    simp only [impl_labelsOk.f, impl_labelsOk.j0, ha, Option.bind_some, e', lab]
    by_cases h1 : (l.length : Int) < 1
    · have h1' : ¬ 1 ≤ l.length := by omega
      simp [h1, h1']
    · have h1' : 1 ≤ l.length := by omega
      by_cases h4 : (l.length : Int) > 4
      · have h4' : ¬ l.length ≤ 4 := by omega
        simp only [if_neg h1, if_pos h4, if_true]
        simp [h1', h4']
      · have h4' : l.length ≤ 4 := by omega
        simp only [if_neg h1, if_neg h4]
        cases asc l <;> simp [h1', h4']

theorem dec_len (n : Nat) (c : Nat) : ((n : Int) == (c : Int)) = decide (n = c) := by
  by_cases h : n = c
  · subst h; simp
  · have h2 : ¬ (n : Int) = (c : Int) := by omega
    simp [h, h2]

theorem empty_list {s : ByteArray} (h : s.toList = []) : nmok s = false := by
  have hs : s.size = 0 := by
    rw [ByteArray.toList_eq] at h
    have := congrArg List.length h
    simpa using this
  unfold nmok
  simp [hs]

/-- A value's own form, its text and labels left aside. -/
def qV (y : S30) : Bool :=
  if y.f0 = 1 then decide (y.f4.length = 0) else if y.f0 = 2 then decide (y.f4.length = 0) && (decide (0 ≤ y.f1) && decide (y.f1 ≤ 1))
  else if y.f0 = 3 then decide (y.f1 = 0) && (decide (y.f3.length = y.f4.length) && lab y.f3)
  else if y.f0 = 4 then decide (y.f1 = 0) && decide (y.f4.length = 1) else if y.f0 = 5 then decide (y.f1 = 0) else false

/-- Is a value well formed, its parts left aside? -/
def lfV (y : S30) : Bool :=
  qV y && (if y.f0 = 4 then nmok y.f2 else decide (y.f2.toList = [])) && (if y.f0 = 3 then true else decide (y.f3.length = 0))

mutual
/-- Is a value well formed? -/
def fmV : S30 → Bool
  | ⟨a, b, c, d, l⟩ => fmsV l && lfV ⟨a, b, c, d, l⟩
def fmsV : List S30 → Bool
  | [] => true
  | x :: xs => fmV x && fmsV xs
end

theorem fmV_eq (y : S30) : fmV y = (fmsV y.f4 && lfV y) := by cases y; simp only [fmV]
theorem fmsV_drop (l : List S30) (i : Nat) (h : i < l.length) : fmsV (l.drop i) = (fmV l[i] && fmsV (l.drop (i + 1))) := by
  rw [List.drop_eq_getElem_cons h, fmsV]

theorem jV_spec (y : S30) (h1 : y.f3.length ≤ 1048576) (h2 : ∀ s ∈ y.f3, s.size ≤ 1048576) : ∃ K, ∀ b k, K ≤ k → spec_l5Form.j1 k b y.f0 y.f1 y.f2 y.f3 y.f4 = some (!b && qV y) := by
  obtain ⟨⟨K, e⟩, -⟩ := lab_f y.f3 h1 h2
  refine ⟨K + 1, fun b k hk => ?_⟩
  obtain ⟨k, rfl⟩ := succ_of (show 0 < k by omega)
  have e' := e k (by omega)
  have d0 := dec_len y.f4.length 0
  have d1 := dec_len y.f4.length 1
  simp only [Int.natCast_zero, Int.natCast_one] at d0 d1
  have c0 : ((y.f4.length : Int) = 0) = (y.f4.length = 0) := by apply propext; omega
  have c3 : ((y.f3.length : Int) = (y.f4.length : Int)) = (y.f3.length = y.f4.length) := by apply propext; omega
  have b1 : (y.f1 == 0) = decide (y.f1 = 0) := rfl
  simp only [spec_l5Form.j1, e', Option.bind_some, qV, d0, d1, l1In_f, c0, c3, b1]
  cases b
  · by_cases a1 : y.f0 = 1
    · simp [a1]
    · by_cases a2 : y.f0 = 2
      · by_cases z : y.f4.length = 0 <;> simp only [a2, z] <;> simp
      · by_cases a3 : y.f0 = 3
        · by_cases z : y.f1 = 0 <;> by_cases z' : y.f3.length = y.f4.length <;> simp [a3, z, z']
        · by_cases a4 : y.f0 = 4
          · by_cases z : y.f1 = 0 <;> simp [a4, z]
          · by_cases a5 : y.f0 = 5 <;> simp [a1, a2, a3, a4, a5]
  · simp

theorem leafV_spec (y : S30) (h0 : y.f2.size ≤ 1048576) (h1 : y.f3.length ≤ 1048576) (h2 : ∀ s ∈ y.f3, s.size ≤ 1048576) : Ev (fun k => (spec_IsName.f k y.f2).bind fun t => (if ((y.f0 == 4) != t) = true then (spec_l5Form.j1 k true y.f0 y.f1 y.f2 y.f3 y.f4) else (if y.f0 = 4 then (if y.f0 = 3 then (spec_l5Form.j1 k false y.f0 y.f1 y.f2 y.f3 y.f4) else (spec_l5Form.j1 k (decide ((y.f3.length : Int) > 0)) y.f0 y.f1 y.f2 y.f3 y.f4)) else (if y.f2.toList = ([] : List UInt8) then (if y.f0 = 3 then (spec_l5Form.j1 k false y.f0 y.f1 y.f2 y.f3 y.f4) else (spec_l5Form.j1 k (decide ((y.f3.length : Int) > 0)) y.f0 y.f1 y.f2 y.f3 y.f4)) else (spec_l5Form.j1 k true y.f0 y.f1 y.f2 y.f3 y.f4))))) (lfV y) := by
  obtain ⟨K, e⟩ := jV_spec y h1 h2
  refine ⟨K + y.f2.size + 1, fun k hk => ?_⟩
  have g : ((y.f3.length : Int) > 0) = ¬ (y.f3.length = 0) := by apply propext; omega
  simp only [name_spec y.f2 (by omega) k (by omega), Option.bind_some, e _ k (by omega), lfV, g]
  by_cases a4 : y.f0 = 4
  · have a3 : ¬ y.f0 = 3 := by omega
    have b4 : (y.f0 == 4) = true := by simp [a4]
    simp only [if_neg a3, if_pos a4, b4]
    cases nmok y.f2 <;> by_cases z : y.f3.length = 0 <;> simp [z]
  · have b4 : (y.f0 == 4) = false := by simp [a4]
    simp only [if_neg a4, b4]
    by_cases t : y.f2.toList = []
    · rw [empty_list t]
      by_cases a3 : y.f0 = 3
      · simp [a3, t]
      · by_cases z : y.f3.length = 0 <;> simp [a3, t, z]
    · cases nmok y.f2 <;> simp [t]

theorem formV_spec (y : S30) (sm : SmV y) : Ev (fun k => spec_l5Form.f k y.f0 y.f1 y.f2 y.f3 y.f4) (fmV y) := by
  induction sm with
  | mk y h0 h1 h2 h3 h4 h5 ih =>
    obtain ⟨K0, e0⟩ := leafV_spec y h2 h3.1 h3.2
    have loop : ∀ d i, i + d = y.f4.length → Ev (fun k => spec_l5Form.l0 k i y.f0 y.f1 y.f2 y.f3 y.f4) (fmsV (y.f4.drop i) && lfV y) := by
      intro d
      induction d with
      | zero =>
        intro i hi'
        have e1 : fmsV (y.f4.drop i) = true := by rw [List.drop_of_length_le (by omega)]; simp [fmsV]
        rw [e1, Bool.true_and]
        refine ⟨K0 + 1, fun k hk => ?_⟩
        obtain ⟨k, rfl⟩ := succ_of (show 0 < k by omega)
        have e0' := e0 k (by omega)
        rw [← e0']
        simp (disch := omega) only [spec_l5Form.l0, if_neg]
      | succ d ihd =>
        intro i hi'
        have hlt : i < y.f4.length := by omega
        obtain ⟨K1, e1⟩ := ih y.f4[i] (List.getElem_mem hlt)
        obtain ⟨K2, e2⟩ := ihd (i + 1) (by omega)
        rw [fmsV_drop y.f4 i hlt]
        refine ⟨K1 + K2 + 1, fun k hk => ?_⟩
        obtain ⟨k, rfl⟩ := succ_of (show 0 < k by omega)
        simp (disch := omega) only [spec_l5Form.l0, rdIV, if_pos, e1, Option.bind_some, w64, cast1, e2]
        cases fmV y.f4[i] <;> simp
    obtain ⟨K, e⟩ := loop y.f4.length 0 (by omega)
    rw [fmV_eq]
    refine ⟨K + 1, fun k hk => ?_⟩
    obtain ⟨k, rfl⟩ := succ_of (show 0 < k by omega)
    have e' := e k (by omega)
    simp only [Int.natCast_zero, List.drop_zero] at e'
    simp only [spec_l5Form.f, e']

theorem formV_impl (y : S30) (sm : SmV y) : Ev (fun k => impl_valueFormed.f k y.f0 y.f1 y.f2 y.f3 y.f4) (fmV y) := by
  induction sm with
  | mk y h0 h1 h2 h3 h4 h5 ih =>
    obtain ⟨-, ⟨K0, e0⟩⟩ := lab_f y.f3 h3.1 h3.2
    have loop : ∀ d i, i + d = y.f4.length → ∀ b, Ev (fun k => impl_valueFormed.l0 k b y.f4 (y.f4.length : Int) i) (fmsV (y.f4.drop i) && b) := by
      intro d
      induction d with
      | zero =>
        intro i hi' b
        have e1 : fmsV (y.f4.drop i) = true := by rw [List.drop_of_length_le (by omega)]; simp [fmsV]
        rw [e1, Bool.true_and]
        refine ⟨1, fun k hk => ?_⟩
        obtain ⟨k, rfl⟩ := succ_of (show 0 < k by omega)
        simp (disch := omega) only [impl_valueFormed.l0, if_neg]
      | succ d ihd =>
        intro i hi' b
        have hlt : i < y.f4.length := by omega
        obtain ⟨K1, e1⟩ := ih y.f4[i] (List.getElem_mem hlt)
        obtain ⟨K2, e2⟩ := ihd (i + 1) (by omega) (fmV y.f4[i])
        obtain ⟨K3, e3⟩ := ihd (i + 1) (by omega) false
        rw [fmsV_drop y.f4 i hlt]
        refine ⟨K1 + K2 + K3 + 1, fun k hk => ?_⟩
        obtain ⟨k, rfl⟩ := succ_of (show 0 < k by omega)
        simp (disch := omega) only [impl_valueFormed.l0, rdIV, if_pos, e1, Option.bind_some, w64, cast1, e2, e3]
        cases b <;> cases fmV y.f4[i] <;> simp
    obtain ⟨K1, e1⟩ := loop y.f4.length 0 (by omega) true
    obtain ⟨K2, e2⟩ := loop y.f4.length 0 (by omega) false
    have eb : ∀ b, ∀ k, K1 + K2 < k → impl_valueFormed.j0 k b y.f0 y.f1 y.f2 y.f3 y.f4 = some (fmsV y.f4 && b) := by
      intro b k hk
      obtain ⟨k, rfl⟩ := succ_of (show 0 < k by omega)
      simp only [impl_valueFormed.j0]
      cases b
      · have := e2 k (by omega); simpa using this
      · have := e1 k (by omega); simpa using this
    rw [fmV_eq]
    refine ⟨K0 + K1 + K2 + y.f2.size + 4, fun k hk => ?_⟩
    obtain ⟨k, rfl⟩ := succ_of (show 0 < k by omega)
    have e0' := e0 k (by omega)
    have d0 := dec_len y.f4.length 0
    have d1 := dec_len y.f4.length 1
    have d3 := dec_len y.f3.length 0
    simp only [Int.natCast_zero, Int.natCast_one] at d0 d1 d3
    have c0 : ((y.f3.length : Int) = 0) = (y.f3.length = 0) := by apply propext; omega
    have c3 : ((y.f3.length : Int) = (y.f4.length : Int)) = (y.f3.length = y.f4.length) := by apply propext; omega
    simp only [impl_valueFormed.f, name_impl y.f2 (by omega) k (by omega), e0', eb _ k (by omega), Option.bind_some, lfV, qV, d0, d1, d3, c0, c3]
    by_cases a1 : y.f0 = 1
    · by_cases t : y.f2.toList = [] <;> by_cases z : y.f3.length = 0 <;> simp [a1, t, z]
    · by_cases a2 : y.f0 = 2
      · by_cases u : y.f1 = 0
        · by_cases t : y.f2.toList = [] <;> by_cases z : y.f3.length = 0 <;> simp [a2, t, z, u]
        · by_cases u' : y.f1 = 1
          · by_cases t : y.f2.toList = [] <;> by_cases z : y.f3.length = 0 <;> simp [a2, t, z, u']
          · have u2 : (decide (0 ≤ y.f1) && decide (y.f1 ≤ 1)) = false := by
              by_cases w : 0 ≤ y.f1
              · have : ¬ y.f1 ≤ 1 := by omega
                simp [this]
              · simp [w]
            simp [a2, u, u', u2]
      · by_cases a3 : y.f0 = 3
        · by_cases u : y.f1 = 0 <;> by_cases t : y.f2.toList = [] <;> by_cases z : y.f3.length = y.f4.length <;> simp [a3, t, z, u]
        · by_cases a4 : y.f0 = 4
          · by_cases u : y.f1 = 0 <;> by_cases z : y.f3.length = 0 <;> cases nmok y.f2 <;> simp [a4, z, u]
          · by_cases a5 : y.f0 = 5
            · by_cases u : y.f1 = 0 <;> by_cases t : y.f2.toList = [] <;> simp [a5, t, u]
            · simp [a1, a2, a3, a4, a5]

/-- Is it a value? -/
def isV (y : S30) : Bool := decide (ndV y ≤ 300) && fmV y

theorem isV_f (y : S30) (sm : SmV y) (hn : ndV y ≤ 1048577) : Ev (fun k => spec_IsValue.f k y.f0 y.f1 y.f2 y.f3 y.f4) (isV y) ∧ Ev (fun k => impl_IsValue.f k y.f0 y.f1 y.f2 y.f3 y.f4) (isV y) := by
  obtain ⟨r, ⟨K1, e1⟩, -, q1, q2⟩ := leftV_f y sm hn 300 (by omega) (by omega)
  obtain ⟨K4, e4⟩ := formV_spec y sm
  obtain ⟨K5, e5⟩ := formV_impl y sm
  obtain ⟨-, ⟨K6, e6⟩⟩ := sizeV_f y sm hn
  have c30 : ((ndV y : Int) ≤ 300) = (ndV y ≤ 300) := by apply propext; omega
  have cr : (r ≥ 0) = (ndV y ≤ 300) := by
    apply propext
    by_cases h : (ndV y : Int) ≤ 300
    · have := q1 h; omega
    · have := q2 (by omega); omega
  refine ⟨⟨K1 + K4, fun k hk => ?_⟩, ⟨K5 + K6, fun k hk => ?_⟩⟩
  · simp only [spec_IsValue.f, e1 k (by omega), e4 k (by omega), Option.bind_some, cr, isV]
    by_cases a : ndV y ≤ 300 <;> simp [a]
  · simp only [impl_IsValue.f, e6 k (by omega), e5 k (by omega), Option.bind_some, c30, isV]
    by_cases a : ndV y ≤ 300 <;> simp [a]

/-- The figures of a number. -/
def dgs (n : Nat) : ByteArray := if n < 10 then strOfNums [48 + (n : Int)] else dgs (n / 10) ++ strOfNums [48 + ((n % 10 : Nat) : Int)]
termination_by n
decreasing_by omega

/-- The figures of a number; none of nought. -/
def dg0 (n : Nat) : ByteArray := if n = 0 then ⟨#[]⟩ else dgs n

theorem dg0_step (n : Nat) (h : n ≠ 0) : dg0 n = dg0 (n / 10) ++ strOfNums [48 + ((n % 10 : Nat) : Int)] := by
  unfold dg0
  rw [if_neg h]
  by_cases h10 : n < 10
  · have e : n / 10 = 0 := by omega
    have e' : n % 10 = n := by omega
    rw [dgs, if_pos h10, e, if_pos rfl, e']
    exact (ByteArray.empty_append).symm
  · rw [dgs, if_neg h10, if_neg (by omega)]

theorem dgs_size (d : Nat) : ∀ n, n < 10 ^ (d + 1) → (dgs n).size ≤ d + 1 := by
  induction d with
  | zero => intro n h; rw [dgs, if_pos (by omega)]; simp [strOfNums_size]
  | succ d ih =>
    intro n h
    by_cases h10 : n < 10
    · rw [dgs, if_pos h10]; simp [strOfNums_size]
    · rw [dgs, if_neg h10, ByteArray.size_append, strOfNums_size]
      have := ih (n / 10) (by rw [Nat.pow_succ] at h; omega)
      simp; omega

/-- A number with its sign. -/
def signed (b : Bool) (n : Nat) : Int := if b then -(n : Int) else n

theorem fig (x : Int) (m : Nat) (hm : m < 10) (hx : x = m ∨ x = -(m : Int)) : (x < 0 → wrap64 (48 + wrap64 (-x)) % 256 = 48 + (m : Int)) ∧ (¬ x < 0 → wrap64 (48 + x) % 256 = 48 + (m : Int)) := by
  unfold wrap64
  rcases hx with rfl | rfl <;> constructor <;> intro h <;> omega

theorem spec_digits (b : Bool) (d : Nat) : ∀ (k n : Nat) (out : ByteArray), n < 10 ^ d → d + out.size ≤ 1000 → d ≤ 100 → n ≤ 9223372036854775808 → d < k →
    spec_FormatInt.l0 k (signed b n) b out = some ((if b then (⟨#[45]⟩ : ByteArray) else ⟨#[]⟩) ++ (dg0 n ++ out)) := by
  induction d with
  | zero =>
    intro k n out h hz hd hu hk
    obtain ⟨k, rfl⟩ := succ_of hk
    have e : n = 0 := by omega
    subst e
    have e0 : signed b 0 = 0 := by cases b <;> rfl
    simp only [spec_FormatInt.l0]
    have e1 : dg0 0 ++ out = out := ByteArray.empty_append
    rw [if_pos e0, e1]
    cases b
    · simp; exact ByteArray.empty_append.symm
    · simp; omega
  | succ d ih =>
    intro k n out h hz hd hu hk
    obtain ⟨k, rfl⟩ := succ_of hk
    by_cases h0 : n = 0
    · subst h0
      have e0 : signed b 0 = 0 := by cases b <;> rfl
      simp only [spec_FormatInt.l0]
      have e1 : dg0 0 ++ out = out := ByteArray.empty_append
      rw [if_pos e0, e1]
      cases b
      · simp; exact ByteArray.empty_append.symm
      · simp; omega
    · have hi := ih k (n / 10) (strOfNums [48 + ((n % 10 : Nat) : Int)] ++ out) (by rw [Nat.pow_succ] at h; omega) (by rw [ByteArray.size_append, strOfNums_size]; simp; omega) (by omega) (by omega) (by omega)
      have e0 : signed b n ≠ 0 := by unfold signed; split <;> omega
      have em : Int.tmod (signed b n) 10 = signed b (n % 10) := by
        cases b
        · show Int.tmod (n : Int) 10 = ((n % 10 : Nat) : Int)
          rw [Int.tmod_eq_emod_of_nonneg (by omega)]; omega
        · show Int.tmod (-(n : Int)) 10 = -((n % 10 : Nat) : Int)
          rw [Int.neg_tmod, Int.tmod_eq_emod_of_nonneg (by omega)]; omega
      have ed : wrap64 (Int.tdiv (signed b n) 10) = signed b (n / 10) := by
        cases b
        · show wrap64 (Int.tdiv (n : Int) 10) = ((n / 10 : Nat) : Int)
          rw [Int.tdiv_eq_ediv_of_nonneg (by omega)]; unfold wrap64; omega
        · show wrap64 (Int.tdiv (-(n : Int)) 10) = -((n / 10 : Nat) : Int)
          rw [Int.neg_tdiv, Int.tdiv_eq_ediv_of_nonneg (by omega)]; unfold wrap64; omega
      simp only [spec_FormatInt.l0]
      rw [if_neg e0, em, ed]
      have eb : (strOfNums [48 + ((n % 10 : Nat) : Int)]).size + out.size ≤ 9223372036854775807 := by rw [strOfNums_size]; simp; omega
      have hx : signed b (n % 10) = ((n % 10 : Nat) : Int) ∨ signed b (n % 10) = -((n % 10 : Nat) : Int) := by cases b <;> simp [signed]
      obtain ⟨ez1, ez2⟩ := fig (signed b (n % 10)) (n % 10) (by omega) hx
      by_cases hneg : signed b (n % 10) < 0
      · rw [if_pos hneg, ez1 hneg]
        simp only [Option.bind_some]
        rw [if_pos eb, hi, dg0_step n h0, ByteArray.append_assoc]
      · rw [if_neg hneg, ez2 hneg]
        simp only [Option.bind_some]
        rw [if_pos eb, hi, dg0_step n h0, ByteArray.append_assoc]

/-- A whole number's text. -/
def fmt (a : Int) : ByteArray := (if a < 0 then (⟨#[45]⟩ : ByteArray) else ⟨#[]⟩) ++ dgs a.natAbs

theorem fmt_spec (a : Int) (h1 : -9223372036854775808 ≤ a) (h2 : a ≤ 9223372036854775807) (k : Nat) (hk : 40 < k) : spec_FormatInt.f k a = some (fmt a) := by
  have big : a.natAbs < 10 ^ 20 := by
    have : a.natAbs ≤ 9223372036854775808 := by omega
    omega
  by_cases h0 : a = 0
  · subst h0
    have e3 : fmt 0 = (⟨#[48]⟩ : ByteArray) := by
      unfold fmt
      rw [if_neg (by omega)]
      have : dgs (Int.natAbs 0) = (⟨#[48]⟩ : ByteArray) := by rw [dgs, if_pos (by decide)]; rfl
      rw [this]; exact ByteArray.empty_append
    rw [e3]; simp only [spec_FormatInt.f, if_true]
  · have ed : dg0 a.natAbs = dgs a.natAbs := by unfold dg0; rw [if_neg (by omega)]
    have eq_ : a = signed (decide (a < 0)) a.natAbs := by unfold signed; by_cases h : a < 0 <;> simp [h] <;> omega
    unfold spec_FormatInt.f
    rw [if_neg h0]
    have := spec_digits (decide (a < 0)) 20 k a.natAbs ⟨#[]⟩ big (by decide) (by omega) (by omega) (by omega)
    rw [← eq_, ed] at this
    rw [this]
    unfold fmt
    by_cases h : a < 0 <;> simp [h] <;> exact ByteArray.append_empty

theorem impl_digits (d : Nat) (hd : d ≤ 100) : ∀ (k n : Nat), n < 10 ^ (d + 1) → n ≤ 18446744073709551615 → d < k → impl_digitsOf.f k (n : Int) = some (dgs n) := by
  induction d with
  | zero =>
    intro k n h hu hk
    obtain ⟨k, rfl⟩ := succ_of hk
    simp only [impl_digitsOf.f]
    rw [if_pos (by omega), dgs, if_pos (by omega), IntKind.wrap_u64]
    have e : ((48 + (n : Int)) % 18446744073709551616) % 256 = 48 + (n : Int) := by omega
    rw [e]
  | succ d ih =>
    intro k n h hu hk
    obtain ⟨k, rfl⟩ := succ_of hk
    simp only [impl_digitsOf.f]
    by_cases h10 : n < 10
    · rw [if_pos (by omega), dgs, if_pos h10, IntKind.wrap_u64]
      have e : ((48 + (n : Int)) % 18446744073709551616) % 256 = 48 + (n : Int) := by omega
      rw [e]
    · have hp : n / 10 < 10 ^ (d + 1) := by rw [Nat.pow_succ] at h; omega
      have hz := dgs_size d (n / 10) hp
      rw [if_neg (by omega), Int.tdiv_eq_ediv_of_nonneg (by omega), Int.tmod_eq_emod_of_nonneg (by omega)]
      have e1 : IntKind.u64.wrap ((n : Int) / 10) = ((n / 10 : Nat) : Int) := by rw [IntKind.wrap_u64]; omega
      have e2 : (IntKind.u64.wrap (48 + (n : Int) % 10)) % 256 = 48 + ((n % 10 : Nat) : Int) := by rw [IntKind.wrap_u64]; omega
      rw [e1, e2, ih (by omega) k (n / 10) hp (by omega) (by omega)]
      simp only [Option.bind_some]
      rw [if_pos (by rw [strOfNums_size]; simp; omega)]
      conv => rhs; rw [dgs, if_neg h10]

theorem fmt_impl (a : Int) (h1 : -9223372036854775808 ≤ a) (h2 : a ≤ 9223372036854775807) (k : Nat) (hk : 40 < k) : impl_FormatInt.f k a = some (fmt a) := by
  have big : a.natAbs < 10 ^ 20 := by
    have : a.natAbs ≤ 9223372036854775808 := by omega
    omega
  have hz := dgs_size 19 a.natAbs big
  have hd := impl_digits 19 (by omega) k a.natAbs big (by omega) (by omega)
  unfold impl_FormatInt.f fmt
  by_cases h : a < 0
  · have e : IntKind.u64.wrap (-(IntKind.u64.wrap a)) = (a.natAbs : Int) := by rw [IntKind.wrap_u64, IntKind.wrap_u64]; omega
    rw [if_pos h, e, hd]
    simp only [Option.bind_some]
    rw [if_pos (by omega)]
    simp [h]
  · have e : IntKind.u64.wrap a = (a.natAbs : Int) := by rw [IntKind.wrap_u64]; omega
    rw [if_neg h, e, hd]
    simp [h]
    exact ByteArray.empty_append.symm

/-- What stands behind the first part of a joined list. -/
def jg (sep : List Int) : List ByteArray → List Int
  | [] => []
  | p :: q => sep ++ bytesOf p ++ jg sep q

/-- A list of strings, joined. -/
def join (sep : List Int) : List ByteArray → List Int
  | [] => []
  | p :: q => bytesOf p ++ jg sep q

theorem jg_length (sep : List Int) (l : List ByteArray) : (jg sep l).length = l.length * sep.length + tot l := by
  induction l with
  | nil => simp [jg, tot]
  | cons p q ih =>
    have e := tot_cons p q
    simp only [jg, List.length_append, List.length_cons, bytesOf_length, ih, e, Nat.add_mul]; omega

theorem join_loop (l : List ByteArray) (a : ByteArray) (hl : l.length ≤ 1048576) (d : Nat) : ∀ (i : Nat) (x : List Int), 1 ≤ i → i + d = l.length → x.length + (jg (bytesOf a) (l.drop i)).length < 140737488355328 →
    ∀ k, d < k → spec_Join.l0 k l a x i = some (strOfNums (x ++ jg (bytesOf a) (l.drop i))) ∧ impl_Join.l0 k a x l l.length i = some (strOfNums (x ++ jg (bytesOf a) (l.drop i))) := by
  induction d with
  | zero =>
    intro i x h1 hi hz k hk
    obtain ⟨k, rfl⟩ := succ_of hk
    simp (disch := omega) only [spec_Join.l0, impl_Join.l0, if_neg]
    rw [List.drop_of_length_le (by omega)]
    simp [jg]
  | succ d ih =>
    intro i x h1 hi hz k hk
    obtain ⟨k, rfl⟩ : ∃ m, k = m + 1 := ⟨k - 1, by omega⟩
    have hlt : i < l.length := by omega
    have hw1 : wrap64 ((i : Int) + 1) = ((i + 1 : Nat) : Int) := by unfold wrap64; omega
    have hd : l.drop i = l[i] :: l.drop (i + 1) := List.drop_eq_getElem_cons hlt
    rw [hd] at hz ⊢
    simp only [jg, List.length_append, bytesOf_length] at hz
    have := ih (i + 1) (x ++ bytesOf a ++ bytesOf l[i]) (by omega) (by omega) (by simp only [List.length_append, bytesOf_length]; omega) k (by omega)
    simp only [jg]
    have e1 : x.length + a.size < 140737488355328 := by omega
    have e2 : (x ++ bytesOf a).length + l[i].size < 140737488355328 := by simp only [List.length_append, bytesOf_length]; omega
    simp (disch := omega) only [spec_Join.l0, impl_Join.l0, rd_at, if_pos, if_pos e1, if_pos e2, hw1, Option.bind_some, this.1, this.2]
    simp

theorem join_f (l : List ByteArray) (a : ByteArray) (hl : l.length ≤ 1048576) (ha : a.size ≤ 1048576) (ht : tot l ≤ 1048576) (k : Nat) (hk : l.length < k) :
    spec_Join.f k l a = some (strOfNums (join (bytesOf a) l)) ∧ impl_Join.f k l a = some (strOfNums (join (bytesOf a) l)) := by
  simp only [spec_Join.f, impl_Join.f]
  obtain ⟨k, rfl⟩ : ∃ m, k = m + 1 := ⟨k - 1, by omega⟩
  cases l with
  | nil => simp [spec_Join.l0, impl_Join.l0, join]
  | cons p q =>
    have et := tot_cons p q
    have e : (q.length * (bytesOf a).length) ≤ 1048576 * 1048576 := Nat.mul_le_mul (by simp at hl; omega) (by rw [bytesOf_length]; exact ha)
    have hj := join_loop (p :: q) a hl q.length 1 (bytesOf p) (by omega) (by simp only [List.length_cons]; omega) (by simp only [List.drop_succ_cons, List.drop_zero, jg_length, bytesOf_length] at *; omega) k (by simp at hk; omega)
    simp only [List.drop_succ_cons, List.drop_zero] at hj
    have hw1 : wrap64 (0 + 1) = ((1 : Nat) : Int) := by unfold wrap64; omega
    have hr : rdOf ByteArray.empty (p :: q) 0 = p := rfl
    have e2 : ([] : List Int).length + p.size < 140737488355328 := by simp; omega
    have e3 : (0 : Int) < ((p :: q).length : Int) := by simp only [List.length_cons]; omega
    simp (disch := omega) only [spec_Join.l0, impl_Join.l0, hr, if_pos e3, if_neg, if_pos, if_pos e2, hw1, List.nil_append, join]
    exact hj

theorem strOf_bytes (s : ByteArray) : strOfNums (bytesOf s) = s := by
  obtain ⟨⟨l⟩⟩ := s
  have : (bytesOf ⟨⟨l⟩⟩).map (fun n => UInt8.ofNat n.toNat) = l := by
    simp [bytesOf, List.map_map, Function.comp_def]
  unfold strOfNums
  rw [this]

theorem strOf_size (l : List Int) : (strOfNums l).size = l.length := by
  unfold strOfNums
  simp [ByteArray.size]

theorem join_size (sep : List Int) (l : List ByteArray) : (strOfNums (join sep l)).size ≤ l.length * sep.length + tot l := by
  rw [strOf_size]
  cases l with
  | nil => simp [join]
  | cons p q =>
    have e := tot_cons p q
    simp only [join, List.length_append, bytesOf_length, jg_length, List.length_cons, Nat.add_mul]; omega

theorem tot_append (a b : List ByteArray) : tot (a ++ b) = tot a + tot b := by
  induction a with
  | nil => simp [tot]
  | cons p q ih => rw [List.cons_append, tot_cons, tot_cons, ih]; omega

theorem nmok_size {s : ByteArray} (h : nmok s = true) : s.size ≤ 4 := by
  unfold nmok at h
  simp at h
  omega

theorem fmt_size (a : Int) (h1 : -9223372036854775808 ≤ a) (h2 : a ≤ 9223372036854775807) : (fmt a).size ≤ 21 := by
  have big : a.natAbs < 10 ^ (19 + 1) := by
    have : a.natAbs ≤ 9223372036854775808 := by omega
    omega
  have := dgs_size 19 a.natAbs big
  unfold fmt
  rw [ByteArray.size_append]
  have h : (if a < 0 then (⟨#[45]⟩ : ByteArray) else ⟨#[]⟩).size ≤ 1 := by
    split
    · show 1 ≤ 1; omega
    · show 0 ≤ 1; omega
  omega

theorem fmsV_mem (l : List S30) (h : fmsV l = true) (z : S30) (hz : z ∈ l) : fmV z = true := by
  induction l with
  | nil => simp at hz
  | cons x xs ih =>
    rw [fmsV, Bool.and_eq_true] at h
    rcases List.mem_cons.1 hz with rfl | hz
    · exact h.1
    · exact ih h.2 hz

theorem textV_f (y : S30) (sm : SmV y) : fmV y = true → ndV y ≤ 300 → ∃ t, Ev (fun k => spec_l6Text.f k y.f0 y.f1 y.f2 y.f3 y.f4) t ∧ Ev (fun k => impl_valueText.f k y.f0 y.f1 y.f2 y.f3 y.f4) t ∧ t.size + 6 ≤ 30 * ndV y := by
  induction sm with
  | mk y h0 h1 h2 h3 h4 h5 ih =>
    intro hf hn
    rw [fmV_eq, Bool.and_eq_true] at hf
    obtain ⟨hfs, hl⟩ := hf
    have he := ndV_eq y
    have hlen := ndsV_len y.f4
    have child : ∀ i (hlt : i < y.f4.length), ∃ t, Ev (fun k => spec_l6Text.f k y.f4[i].f0 y.f4[i].f1 y.f4[i].f2 y.f4[i].f3 y.f4[i].f4) t ∧ Ev (fun k => impl_valueText.f k y.f4[i].f0 y.f4[i].f1 y.f4[i].f2 y.f4[i].f3 y.f4[i].f4) t ∧ t.size + 6 ≤ 30 * ndV y.f4[i] := by
      intro i hlt
      have hm := ndsV_mem y.f4 _ (List.getElem_mem hlt)
      exact ih _ (List.getElem_mem hlt) (fmsV_mem _ hfs _ (List.getElem_mem hlt)) (by omega)
    unfold lfV at hl
    simp only [Bool.and_eq_true] at hl
    obtain ⟨⟨hq, hnm⟩, hlb⟩ := hl
    unfold qV at hq
    by_cases a1 : y.f0 = 1
    · rw [if_pos a1] at hq
      have hl2 : y.f4.length = 0 := by simpa using hq
      have hs := fmt_size y.f1 h1.1 h1.2
      refine ⟨fmt y.f1, ⟨50, fun k hk => ?_⟩, ⟨50, fun k hk => ?_⟩, by omega⟩
      · obtain ⟨k, rfl⟩ : ∃ m, k = m + 2 := ⟨k - 2, by omega⟩
        simp (disch := omega) only [spec_l6Text.f, spec_l6Text.l0, if_neg, if_pos a1, fmt_spec y.f1 h1.1 h1.2 k (by omega), Option.bind_some]
      · obtain ⟨k, rfl⟩ := succ_of (show 0 < k by omega)
        simp only [impl_valueText.f, if_pos a1, fmt_impl y.f1 h1.1 h1.2 k (by omega), Option.bind_some]
    · rw [if_neg a1] at hq
      by_cases a2 : y.f0 = 2
      · rw [if_pos a2] at hq
        simp only [Bool.and_eq_true, decide_eq_true_eq] at hq
        obtain ⟨hl2, q0, q1⟩ := hq
        have w1 : wrap64 (0 + 1) = 1 := by unfold wrap64; omega
        have w2 : wrap64 (1 + 1) = 2 := by unfold wrap64; omega
        rcases (show y.f1 = 0 ∨ y.f1 = 1 by omega) with u | u
        · refine ⟨⟨#[35, 102]⟩, ⟨2, fun k hk => ?_⟩, ⟨1, fun k hk => ?_⟩, ?_⟩
          · obtain ⟨k, rfl⟩ : ∃ m, k = m + 2 := ⟨k - 2, by omega⟩
            have e : (⟨#[35]⟩ : ByteArray) ++ (⟨#[102, 116]⟩ : ByteArray).extract (0 : Int).toNat (1 : Int).toNat = ⟨#[35, 102]⟩ := by decide
            have s1 : 1 + ((⟨#[102, 116]⟩ : ByteArray).extract (0 : Int).toNat (1 : Int).toNat).size ≤ 9223372036854775807 := by decide
            simp (disch := omega) only [spec_l6Text.f, spec_l6Text.l0, if_neg, if_neg a1, if_pos a2, u, w1, if_pos, if_pos s1, e]
          · obtain ⟨k, rfl⟩ := succ_of (show 0 < k by omega)
            simp (disch := omega) only [impl_valueText.f, if_neg a1, if_pos a2, u, if_neg]
          · show 2 + 6 ≤ _; omega
        · refine ⟨⟨#[35, 116]⟩, ⟨2, fun k hk => ?_⟩, ⟨1, fun k hk => ?_⟩, ?_⟩
          · obtain ⟨k, rfl⟩ : ∃ m, k = m + 2 := ⟨k - 2, by omega⟩
            have e : (⟨#[35]⟩ : ByteArray) ++ (⟨#[102, 116]⟩ : ByteArray).extract (1 : Int).toNat (2 : Int).toNat = ⟨#[35, 116]⟩ := by decide
            have s1 : 1 + ((⟨#[102, 116]⟩ : ByteArray).extract (1 : Int).toNat (2 : Int).toNat).size ≤ 9223372036854775807 := by decide
            simp (disch := omega) only [spec_l6Text.f, spec_l6Text.l0, if_neg, if_neg a1, if_pos a2, u, w2, if_pos, if_pos s1, e]
          · obtain ⟨k, rfl⟩ := succ_of (show 0 < k by omega)
            simp (disch := omega) only [impl_valueText.f, if_neg a1, if_pos a2, u, if_true]
          · show 2 + 6 ≤ _; omega
      · rw [if_neg a2] at hq
        by_cases a4 : y.f0 = 4
        · have a3 : ¬ y.f0 = 3 := by omega
          rw [if_neg a3, if_pos a4, Bool.and_eq_true] at hq
          rw [if_pos a4] at hnm
          have hl2 : y.f4.length = 1 := by simpa using hq.2
          have hns := nmok_size hnm
          have hpos : 0 < y.f4.length := by omega
          obtain ⟨t, ⟨K1, e1⟩, ⟨K2, e2⟩, hts⟩ := child 0 hpos
          have hm := ndsV_mem y.f4 _ (List.getElem_mem hpos)
          have z0 := rdIV y.f4 0 hpos
          simp only [Int.natCast_zero] at z0
          have p1 : 1 + y.f2.size ≤ 9223372036854775807 := by omega
          have s1 : ((⟨#[60]⟩ : ByteArray) ++ y.f2).size = 1 + y.f2.size := by rw [ByteArray.size_append]; rfl
          have p2 : ((⟨#[60]⟩ : ByteArray) ++ y.f2).size + 1 ≤ 9223372036854775807 := by omega
          have s2 : (((⟨#[60]⟩ : ByteArray) ++ y.f2) ++ (⟨#[32]⟩ : ByteArray)).size = 2 + y.f2.size := by rw [ByteArray.size_append, s1]; show 1 + y.f2.size + 1 = _; omega
          have p3 : (((⟨#[60]⟩ : ByteArray) ++ y.f2) ++ (⟨#[32]⟩ : ByteArray)).size + t.size ≤ 9223372036854775807 := by omega
          have s3 : ((((⟨#[60]⟩ : ByteArray) ++ y.f2) ++ (⟨#[32]⟩ : ByteArray)) ++ t).size = 2 + y.f2.size + t.size := by rw [ByteArray.size_append, s2]
          have p4 : ((((⟨#[60]⟩ : ByteArray) ++ y.f2) ++ (⟨#[32]⟩ : ByteArray)) ++ t).size + 1 ≤ 9223372036854775807 := by omega
          have w1 : wrap64 (0 + 1) = 1 := by unfold wrap64; omega
          refine ⟨((((⟨#[60]⟩ : ByteArray) ++ y.f2) ++ (⟨#[32]⟩ : ByteArray)) ++ t) ++ (⟨#[62]⟩ : ByteArray), ⟨K1 + 3, fun k hk => ?_⟩, ⟨K2 + 1, fun k hk => ?_⟩, ?_⟩
          · obtain ⟨k, rfl⟩ : ∃ m, k = m + 3 := ⟨k - 3, by omega⟩
            have e1' := e1 (k + 1) (by omega)
            have hr : rdOf ByteArray.empty [t] 0 = t := rfl
            have l1 : (0 : Int) < (([t] : List ByteArray).length : Int) := by simp
            have l0' : ([] : List ByteArray).length < 8796093022208 := by simp
            show spec_l6Text.l0 (k + 2) [] 0 y.f0 y.f1 y.f2 y.f3 y.f4 = _
            rw [spec_l6Text.l0]
            simp (disch := omega) only [z0, e1', Option.bind_some, if_pos, w1, if_neg a3, List.nil_append, if_pos l0']
            rw [spec_l6Text.l0]
            simp (disch := omega) only [if_neg, if_neg a1, if_neg a2, if_neg a3, if_pos a4, hr, if_pos l1, if_pos p1, if_pos p2, if_pos p3, if_pos p4]
          · obtain ⟨k, rfl⟩ := succ_of (show 0 < k by omega)
            have e2' := e2 k (by omega)
            simp (disch := omega) only [impl_valueText.f, if_neg a1, if_neg a2, if_pos a4, z0, e2', Option.bind_some, if_pos, if_pos p1, if_pos p2, if_pos p3, if_pos p4]
          · rw [ByteArray.size_append, s3]; show 2 + y.f2.size + t.size + 1 + 6 ≤ _; omega
        · have hb : (y.f0 = 3 ∧ y.f3.length = y.f4.length ∧ ∀ s ∈ y.f3, s.size ≤ 4) ∨ (¬ y.f0 = 3 ∧ y.f0 = 5) := by
            by_cases a3 : y.f0 = 3
            · rw [if_pos a3] at hq
              simp only [Bool.and_eq_true, decide_eq_true_eq] at hq
              obtain ⟨-, q1, q2⟩ := hq
              unfold lab at q2
              rw [Bool.and_eq_true] at q2
              exact .inl ⟨a3, q1, fun s hs => nmok_size (List.all_eq_true.mp q2.1 s hs)⟩
            · rw [if_neg a3, if_neg a4] at hq
              by_cases a5 : y.f0 = 5
              · exact .inr ⟨a3, a5⟩
              · rw [if_neg a5] at hq; simp at hq
          have loop : ∀ d i, i + d = y.f4.length → ∃ ys : List ByteArray, ys.length = d ∧ tot ys + ys.length ≤ 30 * ndsV (y.f4.drop i) ∧
              (∀ acc r, acc.length + d ≤ 1048576 → Ev (fun k => spec_l6Text.l0 k (acc ++ ys) (y.f4.length : Int) y.f0 y.f1 y.f2 y.f3 y.f4) r → Ev (fun k => spec_l6Text.l0 k acc i y.f0 y.f1 y.f2 y.f3 y.f4) r) ∧
              (∀ acc r, acc.length + d ≤ 1048576 → Ev (fun k => impl_valueText.l0 k (acc ++ ys) y.f4 (y.f4.length : Int) (y.f4.length : Int) y.f0 y.f1 y.f2 y.f3 y.f4) r → Ev (fun k => impl_valueText.l0 k acc y.f4 (y.f4.length : Int) i y.f0 y.f1 y.f2 y.f3 y.f4) r) := by
            intro d
            induction d with
            | zero =>
              intro i hi
              obtain rfl : i = y.f4.length := by omega
              exact ⟨[], rfl, by simp [tot], fun acc r _ h => by simpa using h, fun acc r _ h => by simpa using h⟩
            | succ d ihd =>
              intro i hi
              have hlt : i < y.f4.length := by omega
              obtain ⟨t, ⟨K1, e1⟩, ⟨K2, e2⟩, hts⟩ := child i hlt
              obtain ⟨ys, hys, hyt, hs, hi2⟩ := ihd (i + 1) (by omega)
              have hm := ndsV_mem y.f4 _ (List.getElem_mem hlt)
              rcases hb with ⟨a3, hl1, hnms⟩ | ⟨a3, a5⟩
              · have hlt1 : i < y.f3.length := by omega
                have hla := hnms _ (List.getElem_mem hlt1)
                have c1 : y.f3[i].size + 1 ≤ 9223372036854775807 := by omega
                have sa : (y.f3[i] ++ (⟨#[61]⟩ : ByteArray)).size = y.f3[i].size + 1 := by rw [ByteArray.size_append]; rfl
                have c2 : (y.f3[i] ++ (⟨#[61]⟩ : ByteArray)).size + t.size ≤ 9223372036854775807 := by rw [sa]; omega
                have sb : ((y.f3[i] ++ (⟨#[61]⟩ : ByteArray)) ++ t).size = y.f3[i].size + 1 + t.size := by rw [ByteArray.size_append, sa]
                refine ⟨((y.f3[i] ++ (⟨#[61]⟩ : ByteArray)) ++ t) :: ys, by simp [hys], ?_, ?_, ?_⟩
                · rw [tot_cons, sb, ndsV_drop y.f4 i hlt, List.length_cons]; omega
                · intro acc r ha h
                  obtain ⟨K3, e3⟩ := hs (acc ++ [((y.f3[i] ++ (⟨#[61]⟩ : ByteArray)) ++ t)]) r (by simp; omega) (by simpa using h)
                  refine ⟨K1 + K3 + 1, fun k hk => ?_⟩
                  obtain ⟨k, rfl⟩ := succ_of (show 0 < k by omega)
                  simp (disch := omega) only [spec_l6Text.l0, rdIV, rd_at, if_pos, e1, Option.bind_some, if_pos a3, if_pos c1, if_pos c2, w64, cast1, e3]
                · intro acc r ha h
                  obtain ⟨K3, e3⟩ := hi2 (acc ++ [((y.f3[i] ++ (⟨#[61]⟩ : ByteArray)) ++ t)]) r (by simp; omega) (by simpa using h)
                  refine ⟨K2 + K3 + 1, fun k hk => ?_⟩
                  obtain ⟨k, rfl⟩ := succ_of (show 0 < k by omega)
                  simp (disch := omega) only [impl_valueText.l0, rdIV, rd_at, if_pos, e2, Option.bind_some, if_pos a3, if_pos c1, if_pos c2, w64, cast1, e3]
              · refine ⟨t :: ys, by simp [hys], ?_, ?_, ?_⟩
                · rw [tot_cons, ndsV_drop y.f4 i hlt, List.length_cons]; omega
                · intro acc r ha h
                  obtain ⟨K3, e3⟩ := hs (acc ++ [t]) r (by simp; omega) (by simpa using h)
                  refine ⟨K1 + K3 + 1, fun k hk => ?_⟩
                  obtain ⟨k, rfl⟩ := succ_of (show 0 < k by omega)
                  simp (disch := omega) only [spec_l6Text.l0, rdIV, if_pos, e1, Option.bind_some, if_neg a3, w64, cast1, e3]
                · intro acc r ha h
                  obtain ⟨K3, e3⟩ := hi2 (acc ++ [t]) r (by simp; omega) (by simpa using h)
                  refine ⟨K2 + K3 + 1, fun k hk => ?_⟩
                  obtain ⟨k, rfl⟩ := succ_of (show 0 < k by omega)
                  simp (disch := omega) only [impl_valueText.l0, rdIV, if_pos, e2, Option.bind_some, if_neg a3, w64, cast1, e3]
          obtain ⟨ys, hys, hyt, hs, hi2⟩ := loop y.f4.length 0 (by omega)
          rw [List.drop_zero] at hyt
          have hj := join_f ys ⟨#[44]⟩ (by omega) (by show 1 ≤ 1048576; omega) (by omega)
          have hjs := join_size (bytesOf ⟨#[44]⟩) ys
          have h44 : (bytesOf ⟨#[44]⟩).length = 1 := rfl
          rw [h44] at hjs
          generalize hJ : strOfNums (join (bytesOf ⟨#[44]⟩) ys) = J at hj hjs
          have cc : ∀ o : UInt8, 1 + J.size ≤ 9223372036854775807 ∧ ((⟨#[o]⟩ : ByteArray) ++ J).size + 1 ≤ 9223372036854775807 ∧ ∀ c : UInt8, (((⟨#[o]⟩ : ByteArray) ++ J) ++ (⟨#[c]⟩ : ByteArray)).size = J.size + 2 := by
            intro o
            have s1 : ((⟨#[o]⟩ : ByteArray) ++ J).size = 1 + J.size := by rw [ByteArray.size_append]; rfl
            refine ⟨by omega, by omega, fun c => ?_⟩
            rw [ByteArray.size_append, s1]; show 1 + J.size + 1 = _; omega
          have hfin : ∃ o c : UInt8, (∀ k, ys.length + 1 < k → spec_l6Text.l0 k ys (y.f4.length : Int) y.f0 y.f1 y.f2 y.f3 y.f4 = some (((⟨#[o]⟩ : ByteArray) ++ J) ++ (⟨#[c]⟩ : ByteArray))) ∧ (∀ k, ys.length + 1 < k → impl_valueText.l0 k ys y.f4 (y.f4.length : Int) (y.f4.length : Int) y.f0 y.f1 y.f2 y.f3 y.f4 = some (((⟨#[o]⟩ : ByteArray) ++ J) ++ (⟨#[c]⟩ : ByteArray))) := by
            rcases hb with ⟨a3, -, -⟩ | ⟨a3, a5⟩
            · refine ⟨123, 125, fun k hk => ?_, fun k hk => ?_⟩ <;> obtain ⟨k, rfl⟩ := succ_of (show 0 < k by omega)
              · obtain ⟨q1, q2, -⟩ := cc 123
                simp (disch := omega) only [spec_l6Text.l0, if_neg, if_neg a1, if_neg a2, if_pos a3, (hj k (by omega)).1, Option.bind_some, if_pos q1, if_pos q2]
              · obtain ⟨q1, q2, -⟩ := cc 123
                simp (disch := omega) only [impl_valueText.l0, if_neg, if_pos a3, (hj k (by omega)).2, Option.bind_some, if_pos q1, if_pos q2]
            · refine ⟨91, 93, fun k hk => ?_, fun k hk => ?_⟩ <;> obtain ⟨k, rfl⟩ := succ_of (show 0 < k by omega)
              · obtain ⟨q1, q2, -⟩ := cc 91
                simp (disch := omega) only [spec_l6Text.l0, if_neg, if_neg a1, if_neg a2, if_neg a3, if_neg a4, (hj k (by omega)).1, Option.bind_some, if_pos q1, if_pos q2]
              · obtain ⟨q1, q2, -⟩ := cc 91
                simp (disch := omega) only [impl_valueText.l0, if_neg, if_neg a3, (hj k (by omega)).2, Option.bind_some, if_pos q1, if_pos q2]
          obtain ⟨o, c, f1, f2⟩ := hfin
          obtain ⟨K1, e1⟩ := hs [] _ (by simp; omega) ⟨ys.length + 2, fun k hk => by simpa using f1 k (by omega)⟩
          obtain ⟨K2, e2⟩ := hi2 [] _ (by simp; omega) ⟨ys.length + 2, fun k hk => by simpa using f2 k (by omega)⟩
          refine ⟨((⟨#[o]⟩ : ByteArray) ++ J) ++ (⟨#[c]⟩ : ByteArray), ⟨K1 + 1, fun k hk => ?_⟩, ⟨K2 + 1, fun k hk => ?_⟩, ?_⟩
          · obtain ⟨k, rfl⟩ := succ_of (show 0 < k by omega)
            have := e1 k (by omega)
            simp only [Int.natCast_zero] at this
            simp only [spec_l6Text.f, this]
          · obtain ⟨k, rfl⟩ := succ_of (show 0 < k by omega)
            have := e2 k (by omega)
            simp only [Int.natCast_zero] at this
            simp only [impl_valueText.f, if_neg a1, if_neg a2, if_neg a4, this]
          · rw [(cc o).2.2 c]; omega

theorem formatV_f (y : S30) (sm : SmV y) (hn : ndV y ≤ 1048577) : ∃ t, Ev (fun k => spec_FormatValue.f k y.f0 y.f1 y.f2 y.f3 y.f4) t ∧ Ev (fun k => impl_FormatValue.f k y.f0 y.f1 y.f2 y.f3 y.f4) t := by
  obtain ⟨⟨K1, e1⟩, ⟨K2, e2⟩⟩ := isV_f y sm hn
  by_cases h : isV y = true
  · have h' := h
    unfold isV at h'
    simp only [Bool.and_eq_true, decide_eq_true_eq] at h'
    obtain ⟨t, ⟨K3, e3⟩, ⟨K4, e4⟩, -⟩ := textV_f y sm h'.2 h'.1
    exact ⟨t, ⟨K1 + K3, fun k hk => by simp only [spec_FormatValue.f, e1 k (by omega), Option.bind_some, h, if_true, e3 k (by omega)]⟩, ⟨K2 + K4, fun k hk => by simp only [impl_FormatValue.f, e2 k (by omega), Option.bind_some, h, if_true, e4 k (by omega)]⟩⟩
  · exact ⟨⟨#[]⟩, ⟨K1, fun k hk => by simp only [spec_FormatValue.f, e1 k (by omega), Option.bind_some, if_neg h]⟩, ⟨K2, fun k hk => by simp only [impl_FormatValue.f, e2 k (by omega), Option.bind_some, if_neg h]⟩⟩

theorem FnExactFormatValue (x0 : S25) (o0 : Ok25 x0) : ∃ k, laws_FnExactFormatValue.f k x0.f0 x0.f1 x0.f2 x0.f3 x0.f4 = some true := by
  obtain ⟨r, ⟨K1, h1⟩, h⟩ := szV_to x0 o0 1048576 (by omega) (by omega)
  rcases h with h | ⟨h, y, sm, ⟨K2, h2⟩, hn⟩
  · have e1 := h1 K1 (by omega)
    exact ⟨K1, by simp only [laws_FnExactFormatValue.f, e1, Option.bind_some, if_pos h]⟩
  · obtain ⟨n, ⟨K3, h3⟩, ⟨K4, h4⟩⟩ := formatV_f y sm (by omega)
    obtain ⟨K5, h5⟩ := eqV_self y sm
    have e1 := h1 (K1 + K2 + K3 + K4 + K5) (by omega)
    have e2 := h2 (K1 + K2 + K3 + K4 + K5) (by omega)
    have e3 := h3 (K1 + K2 + K3 + K4 + K5) (by omega)
    have e4 := h4 (K1 + K2 + K3 + K4 + K5) (by omega)
    have e5 := h5 (K1 + K2 + K3 + K4 + K5) (by omega)
    exact ⟨K1 + K2 + K3 + K4 + K5, by simp (disch := omega) only [laws_FnExactFormatValue.f, e1, e2, e3, e4, e5, Option.bind_some, if_neg, if_true, bne_self_eq_false, Bool.false_eq_true, if_false]⟩

end Go.Proofs.Ytmelflbbeecjfaa.Pure
