/- The program's IsUniform answers as the reference's and leaves its argument alone, for every type: no condition. -/
import Derived.Test.YtingaflikkeefaaXAx18
import Derived.Test.YtingaflikkeefaaXAxk
namespace Go.Proofs.Ytingaflikkeefaa.Pure
open Go.RowKit Go.Proofs.Ytingaflikkeefaa.XA Go.Proofs.YtingaflikkeefaaW.PrintWords Go.Proofs.YtingaflikkeefaaW.PrintLast

set_option linter.unusedSimpArgs false
set_option linter.unusedVariables false

theorem w64 {n : Int} (h : -9223372036854775808 ≤ n) (h' : n ≤ 9223372036854775807) : wrap64 n = n := by unfold wrap64; omega
theorem cast1 (i : Nat) : (i : Int) + 1 = ((i + 1 : Nat) : Int) := by omega
theorem succ_of {d k : Nat} (h : d < k) : ∃ m, k = m + 1 := ⟨k - 1, by omega⟩

theorem rd_at (l : List ByteArray) (i : Nat) (h : i < l.length) : rdOf ByteArray.empty l (i : Int) = l[i] := by
  simp [rdOf, h]

/-- How many bytes the strings have together. -/
def tot (l : List ByteArray) : Nat := (l.map ByteArray.size).sum

theorem tot_cons (p : ByteArray) (l : List ByteArray) : tot (p :: l) = p.size + tot l := by simp only [tot, List.map_cons, List.sum_cons]

theorem tot_drop (l : List ByteArray) (i : Nat) (h : i < l.length) : tot (l.drop i) = l[i].size + tot (l.drop (i + 1)) := by
  rw [List.drop_eq_getElem_cons h, tot_cons]

theorem sz_loop (l : List ByteArray) (hl : l.length ≤ maxLen) (hs : ∀ s ∈ l, s.size ≤ maxLen) (d : Nat) : ∀ (i : Nat) (left : Int), i + d = l.length → 0 ≤ left → left ≤ 1048576 →
    ∃ r, (∀ k, d < k → laws_szStringS.l0 k l left i = some r) ∧ (r < 0 ∨ 0 ≤ r ∧ (tot (l.drop i) : Int) + r = left) := by
  simp only [maxLen] at hl hs
  induction d with
  | zero =>
    intro i left hi h0 h1
    refine ⟨left, fun k hk => ?_, .inr ⟨h0, ?_⟩⟩
    · obtain ⟨k, rfl⟩ := succ_of hk
      simp (disch := omega) only [laws_szStringS.l0, if_neg]
    · rw [List.drop_of_length_le (by omega)]; simp [tot]
  | succ d ih =>
    intro i left hi h0 h1
    have hlt : i < l.length := by omega
    have hz := hs l[i] (List.getElem_mem hlt)
    by_cases hneg : left - (l[i].size : Int) < 0
    · refine ⟨-1, fun k hk => ?_, .inl (by omega)⟩
      obtain ⟨k, rfl⟩ := succ_of hk
      simp (disch := omega) only [laws_szStringS.l0, rd_at, w64, if_pos]
    · obtain ⟨r, h2, h3⟩ := ih (i + 1) (left - (l[i].size : Int)) (by omega) (by omega) (by omega)
      refine ⟨r, fun k hk => ?_, ?_⟩
      · obtain ⟨k, rfl⟩ := succ_of hk
        simp (disch := omega) only [laws_szStringS.l0, rd_at, w64, if_pos, if_neg, cast1]
        exact h2 k (by omega)
      · rcases h3 with h3 | ⟨h3, h4⟩
        · exact .inl h3
        · refine .inr ⟨h3, ?_⟩
          rw [tot_drop l i hlt]; omega

theorem sz_g (l : List ByteArray) (hl : l.length ≤ maxLen) (hs : ∀ s ∈ l, s.size ≤ maxLen) (left : Int) (g0 : 0 ≤ left) (g1 : left ≤ 1048576) :
    ∃ r, (∀ k, l.length < k → laws_szStringS.f k l left = some r) ∧ (r < 0 ∨ 0 ≤ r ∧ (l.length : Int) + tot l + r = left) := by
  have hl' := hl
  simp only [maxLen] at hl'
  by_cases hneg : left - (l.length : Int) < 0
  · refine ⟨-1, fun k _ => ?_, .inl (by omega)⟩
    simp (disch := omega) only [laws_szStringS.f, w64, if_pos]
  · obtain ⟨r, h2, h3⟩ := sz_loop l hl hs l.length 0 (left - (l.length : Int)) (by omega) (by omega) (by omega)
    refine ⟨r, fun k hk => ?_, ?_⟩
    · simp (disch := omega) only [laws_szStringS.f, w64, if_neg]; exact h2 k hk
    · rcases h3 with h3 | ⟨h3, h4⟩
      · exact .inl h3
      · refine .inr ⟨h3, ?_⟩
        rw [List.drop_zero] at h4; omega

theorem sz_f (l : List ByteArray) (hl : l.length ≤ maxLen) (hs : ∀ s ∈ l, s.size ≤ maxLen) :
    ∃ r, (∀ k, l.length < k → laws_szStringS.f k l 1048576 = some r) ∧ (r < 0 ∨ 0 ≤ r ∧ l.length + tot l ≤ 1048576) := by
  obtain ⟨r, h1, h2⟩ := sz_g l hl hs 1048576 (by omega) (by omega)
  refine ⟨r, h1, ?_⟩
  rcases h2 with h2 | ⟨h2, h3⟩
  · exact .inl h2
  · exact .inr ⟨h2, by omega⟩

theorem tot_mem (r : List ByteArray) (p : ByteArray) (h : p ∈ r) : p.size ≤ tot r := by
  induction r with
  | nil => simp at h
  | cons q r ih =>
    have e := tot_cons q r
    rcases List.mem_cons.1 h with rfl | h
    · omega
    · have := ih h; omega

theorem to_loop (l : List ByteArray) (hl : l.length ≤ 1048576) (d : Nat) : ∀ (i k : Nat), i + d = l.length → d < k →
    laws_toStringS.l0 k l (l.take i ++ List.replicate d (⟨#[]⟩ : ByteArray)) i = some l := by
  induction d with
  | zero =>
    intro i k hi hk
    obtain ⟨k, rfl⟩ := succ_of hk
    simp (disch := omega) only [laws_toStringS.l0, if_neg]
    rw [List.take_of_length_le (by omega)]; simp
  | succ d ih =>
    intro i k hi hk
    obtain ⟨k, rfl⟩ := succ_of hk
    have hlt : i < l.length := by omega
    have hq : (i : Int) < ((l.take i ++ List.replicate (d + 1) (⟨#[]⟩ : ByteArray)).length : Int) := by simp; omega
    have e : (l.take i ++ List.replicate (d + 1) (⟨#[]⟩ : ByteArray)).set i l[i] = l.take (i + 1) ++ List.replicate d (⟨#[]⟩ : ByteArray) := by
      have ht : (l.take i).length = i := by rw [List.length_take]; omega
      rw [List.set_append_right _ _ (by omega), ht, Nat.sub_self, List.replicate_succ, List.set_cons_zero, List.take_succ_eq_append_getElem hlt, List.append_assoc]; rfl
    simp (disch := omega) only [laws_toStringS.l0, rd_at, w64, if_pos, cast1, Int.toNat_natCast, if_pos hq, e]
    exact ih (i + 1) k (by omega) (by omega)

theorem to_f (l : List ByteArray) (hl : l.length ≤ 1048576) (k : Nat) (hk : l.length < k) : laws_toStringS.f k l = some l := by
  simp (disch := omega) only [laws_toStringS.f, if_pos]
  have := to_loop l hl l.length 0 k (by omega) hk
  simpa using this

theorem eq_loop (l : List ByteArray) (hl : l.length ≤ 1099511627776) (d : Nat) : ∀ (i k : Nat), i + d = l.length → d < k → laws_eqStringS.l0 k l l i = some true := by
  induction d with
  | zero =>
    intro i k hi hk
    obtain ⟨k, rfl⟩ := succ_of hk
    simp (disch := omega) only [laws_eqStringS.l0, if_neg]
  | succ d ih =>
    intro i k hi hk
    obtain ⟨k, rfl⟩ := succ_of hk
    simp (disch := omega) only [laws_eqStringS.l0, if_pos, w64, cast1, if_true]
    exact ih (i + 1) k (by omega) (by omega)

theorem eq_f (l : List ByteArray) (hl : l.length ≤ 1099511627776) (k : Nat) (hk : l.length < k) : laws_eqStringS.f k l l = some true := by
  simp only [laws_eqStringS.f, if_true]
  exact eq_loop l hl l.length 0 k (by omega) hk

theorem rdIT (l : List S30) (i : Nat) (h : i < l.length) : rd_T30 l (i : Int) = l[i] := by simp [rd_T30, h]
theorem rdLT (l : List S25) (i : Nat) (h : i < l.length) : rd_T25 l (i : Int) = l[i] := by simp [rd_T25, h]

mutual
/-- How many types it holds, itself among them. -/
def ndT : S30 → Nat
  | ⟨_, _, l⟩ => ndsT l + 1
def ndsT : List S30 → Nat
  | [] => 0
  | x :: xs => ndT x + ndsT xs
end

theorem ndT_eq (y : S30) : ndT y = ndsT y.f2 + 1 := by cases y; simp only [ndT]
theorem ndsT_drop (l : List S30) (i : Nat) (h : i < l.length) : ndsT (l.drop i) = ndT l[i] + ndsT (l.drop (i + 1)) := by
  rw [List.drop_eq_getElem_cons h, ndsT]
theorem ndsT_len (l : List S30) : l.length ≤ ndsT l := by
  induction l with
  | nil => simp [ndsT]
  | cons x xs ih => have := ndT_eq x; simp only [ndsT, List.length_cons]; omega
theorem ndsT_mem (l : List S30) (z : S30) (h : z ∈ l) : ndT z ≤ ndsT l := by
  induction l with
  | nil => simp at h
  | cons x xs ih =>
    simp only [ndsT]
    rcases List.mem_cons.1 h with rfl | h
    · omega
    · have := ih h; omega

/-- Within bounds, all the way down. -/
inductive SmT : S30 → Prop
  | mk (y : S30) (h0 : -9223372036854775808 ≤ y.f0 ∧ y.f0 ≤ 9223372036854775807) (h1 : y.f1.length ≤ 1048576 ∧ ∀ s ∈ y.f1, s.size ≤ 1048576) (h2 : y.f2.length ≤ 1048576) (h3 : ∀ z ∈ y.f2, SmT z) : SmT y

theorem wf64T {n : Int} (h : (Lit.int .i64 n).wf = true) : -9223372036854775808 ≤ n ∧ n ≤ 9223372036854775807 := by
  simpa [Lit.wf, IntKind.min, IntKind.max, IntKind.signed, IntKind.bits] using h

theorem szT_to (x : S25) (ok : Ok25 x) : ∀ left : Int, 0 ≤ left → left ≤ 1048576 →
    ∃ r, Ev (fun k => laws_szType.f k x.f0 x.f1 x.f2 left) r ∧ (r < 0 ∨ 0 ≤ r ∧ ∃ y, SmT y ∧ Ev (fun k => laws_toType.f k x.f0 x.f1 x.f2) (y.f0, y.f1, y.f2) ∧ (ndT y : Int) + r ≤ left + 1) := by
  induction ok with
  | mk x h0 h1 h2 h3 h4 ih =>
    intro left hl0 hl1
    have bl := h3
    simp only [maxLen] at bl
    obtain ⟨rs, e0, q0⟩ := sz_g x.f1 h1 h2 (left) (by omega) (by omega)
    rcases q0 with q0 | ⟨q0, q1⟩
    · refine ⟨-1, ⟨x.f1.length + 2, fun k hk => ?_⟩, .inl (by omega)⟩
      obtain ⟨k, rfl⟩ := succ_of (show 0 < k by omega)
      have e0' := e0 k (by omega)
      simp (disch := omega) only [laws_szType.f, w64, if_neg, e0', Option.bind_some, if_pos]
    by_cases hneg2 : rs - (x.f2.length : Int) < 0
    · refine ⟨-1, ⟨x.f1.length + 3, fun k hk => ?_⟩, .inl (by omega)⟩
      obtain ⟨k, rfl⟩ : ∃ m, k = m + 2 := ⟨k - 2, by omega⟩
      have e0' := e0 (k + 1) (by omega)
      simp (disch := omega) only [laws_szType.f, laws_szTypeS.f, w64, e0', if_pos, if_neg, Option.bind_some]
    have loop : ∀ d i (left : Int), i + d = x.f2.length → 0 ≤ left → left ≤ 1048576 → ∃ r, Ev (fun k => laws_szTypeS.l0 k x.f2 left i) r ∧ (r < 0 ∨ 0 ≤ r ∧ ∃ ys : List S30, ys.length = d ∧ (∀ z ∈ ys, SmT z) ∧ (ndsT ys : Int) + r ≤ left + d ∧
        ∀ p : List S30, p.length = i → Ev (fun k => laws_toTypeS.l0 k x.f2 (p ++ List.replicate d z30) i) (p ++ ys)) := by
      intro d
      induction d with
      | zero =>
        intro i left hi g0 g1
        refine ⟨left, ⟨1, fun k hk => ?_⟩, .inr ⟨g0, [], rfl, by simp, by simp [ndsT], fun p hp => ⟨1, fun k hk => ?_⟩⟩⟩ <;> obtain ⟨k, rfl⟩ := succ_of (show 0 < k by omega)
        · simp (disch := omega) only [laws_szTypeS.l0, if_neg]
        · simp (disch := omega) only [laws_toTypeS.l0, if_neg]; simp
      | succ d ihd =>
        intro i left hi g0 g1
        have hlt : i < x.f2.length := by omega
        obtain ⟨r1, ⟨K1, e1⟩, hr1⟩ := ih x.f2[i] (List.getElem_mem hlt) left g0 g1
        rcases hr1 with hr1 | ⟨hr1, y, sm, ⟨K2, e2⟩, hn⟩
        · refine ⟨-1, ⟨K1 + 1, fun k hk => ?_⟩, .inl (by omega)⟩
          obtain ⟨k, rfl⟩ := succ_of (show 0 < k by omega)
          simp (disch := omega) only [laws_szTypeS.l0, rdLT, if_pos, e1, Option.bind_some]
        · have hy := ndT_eq y
          obtain ⟨r, ⟨K3, e3⟩, hr⟩ := ihd (i + 1) r1 (by omega) hr1 (by omega)
          refine ⟨r, ⟨K1 + K3 + 1, fun k hk => ?_⟩, ?_⟩
          · obtain ⟨k, rfl⟩ := succ_of (show 0 < k by omega)
            simp (disch := omega) only [laws_szTypeS.l0, rdLT, if_pos, if_neg, e1, Option.bind_some, w64, cast1, e3]
          · rcases hr with hr | ⟨hr, ys, hlen, hsm, hnd, hto⟩
            · exact .inl hr
            · refine .inr ⟨hr, y :: ys, by simp [hlen], ?_, ?_, fun p hp => ?_⟩
              · intro z hz
                rcases List.mem_cons.1 hz with rfl | hz
                · exact sm
                · exact hsm z hz
              · simp only [ndsT]; omega
              · obtain ⟨K4, e4⟩ := hto (p ++ [y]) (by simp [hp])
                refine ⟨K2 + K4 + 1, fun k hk => ?_⟩
                obtain ⟨k, rfl⟩ := succ_of (show 0 < k by omega)
                have hq : (i : Int) < ((p ++ List.replicate (d + 1) z30).length : Int) := by simp; omega
                have es : (p ++ List.replicate (d + 1) z30).set i y = (p ++ [y]) ++ List.replicate d z30 := by
                  rw [List.set_append_right _ _ (by omega), hp, Nat.sub_self, List.replicate_succ, List.set_cons_zero, List.append_assoc]; rfl
                have ey : (⟨y.f0, y.f1, y.f2⟩ : S30) = y := by cases y; rfl
                simp (disch := omega) only [laws_toTypeS.l0, rdLT, if_pos, e2, Option.bind_some, w64, cast1, Int.toNat_natCast, if_pos hq, ey, es, e4]
                simp
    obtain ⟨r, ⟨K1, e1⟩, hr⟩ := loop x.f2.length 0 (rs - (x.f2.length : Int)) (by omega) (by omega) (by omega)
    rcases hr with hr | ⟨hr, ys, hlen, hsm, hnd, hto⟩
    · refine ⟨-1, ⟨K1 + x.f1.length + 3, fun k hk => ?_⟩, .inl (by omega)⟩
      obtain ⟨k, rfl⟩ : ∃ m, k = m + 2 := ⟨k - 2, by omega⟩
      have e1' := e1 k (by omega)
      have e0' := e0 (k + 1) (by omega)
      simp only [Int.natCast_zero] at e1'
      simp (disch := omega) only [laws_szType.f, laws_szTypeS.f, w64, e0', if_neg, if_pos, e1', Option.bind_some]
    · refine ⟨r, ⟨K1 + x.f1.length + 3, fun k hk => ?_⟩, .inr ⟨hr, ⟨x.f0, x.f1, ys⟩, ?_, ?_, ?_⟩⟩
      · obtain ⟨k, rfl⟩ : ∃ m, k = m + 2 := ⟨k - 2, by omega⟩
        have e1' := e1 k (by omega)
        have e0' := e0 (k + 1) (by omega)
        simp only [Int.natCast_zero] at e1'
        simp (disch := omega) only [laws_szType.f, laws_szTypeS.f, w64, e0', if_neg, e1', Option.bind_some]
      · exact .mk _ (wf64T h0) ⟨by show x.f1.length ≤ _; omega, fun s hs => by have := tot_mem x.f1 s hs; omega⟩ (by show ys.length ≤ _; omega) hsm
      · obtain ⟨K2, e2⟩ := hto [] rfl
        refine ⟨K2 + x.f1.length + 3, fun k hk => ?_⟩
        obtain ⟨k, rfl⟩ : ∃ m, k = m + 2 := ⟨k - 2, by omega⟩
        have e2' := e2 k (by omega)
        have t0 := to_f x.f1 (by omega) (k + 1) (by omega)
        simp only [Int.natCast_zero, List.nil_append] at e2'
        simp (disch := omega) only [laws_toType.f, laws_toTypeS.f, t0, if_pos, Int.toNat_natCast, e2', Option.bind_some]
      · simp only [ndT]; omega

theorem eqT_self (y : S30) (sm : SmT y) : Ev (fun k => laws_eqType.f k y.f0 y.f1 y.f2 y.f0 y.f1 y.f2) true := by
  induction sm with
  | mk y h0 h1 h3_ h4_ ih =>
    have loop : ∀ d i, i + d = y.f2.length → Ev (fun k => laws_eqTypeS.l0 k y.f2 y.f2 i) true := by
      intro d
      induction d with
      | zero =>
        intro i hi
        refine ⟨1, fun k hk => ?_⟩
        obtain ⟨k, rfl⟩ := succ_of (show 0 < k by omega)
        simp (disch := omega) only [laws_eqTypeS.l0, if_neg]
      | succ d ihd =>
        intro i hi
        have hlt : i < y.f2.length := by omega
        obtain ⟨K1, e1⟩ := ih y.f2[i] (List.getElem_mem hlt)
        obtain ⟨K2, e2⟩ := ihd (i + 1) (by omega)
        refine ⟨K1 + K2 + 1, fun k hk => ?_⟩
        obtain ⟨k, rfl⟩ := succ_of (show 0 < k by omega)
        simp (disch := omega) only [laws_eqTypeS.l0, rdIT, if_pos, e1, Option.bind_some, w64, cast1, e2, if_true]
    obtain ⟨K, e⟩ := loop y.f2.length 0 (by omega)
    refine ⟨K + y.f1.length + 3, fun k hk => ?_⟩
    obtain ⟨k, rfl⟩ : ∃ m, k = m + 2 := ⟨k - 2, by omega⟩
    have e' := e k (by omega)
    have e0 := eq_f y.f1 (by have := h1.1; omega) (k + 1) (by omega)
    simp only [Int.natCast_zero] at e'
    simp only [laws_eqType.f, laws_eqTypeS.f, e0, if_true, e', Option.bind_some]

theorem sizeT_f (y : S30) (sm : SmT y) (hn : ndT y ≤ 1048577) : Ev (fun k => spec_SizeOfType.f k y.f0 y.f1 y.f2) (ndT y) ∧ Ev (fun k => impl_SizeOfType.f k y.f0 y.f1 y.f2) (ndT y) := by
  induction sm with
  | mk y g0 g1 h3 h4 ih =>
    have he := ndT_eq y
    have loop : ∀ d i (a : Int), i + d = y.f2.length → 0 ≤ a → a + ndsT (y.f2.drop i) ≤ 1048577 → Ev (fun k => spec_SizeOfType.l0 k a i y.f0 y.f1 y.f2) (a + ndsT (y.f2.drop i)) ∧ Ev (fun k => impl_SizeOfType.l0 k a y.f2 y.f2.length i) (a + ndsT (y.f2.drop i)) := by
      intro d
      induction d with
      | zero =>
        intro i a hi ha hb
        have e0 : (ndsT (y.f2.drop i) : Int) = 0 := by rw [List.drop_of_length_le (by omega)]; simp [ndsT]
        rw [e0, Int.add_zero]
        refine ⟨⟨1, fun k hk => ?_⟩, ⟨1, fun k hk => ?_⟩⟩ <;> obtain ⟨k, rfl⟩ := succ_of (show 0 < k by omega)
        · simp (disch := omega) only [spec_SizeOfType.l0, if_neg]
        · simp (disch := omega) only [impl_SizeOfType.l0, if_neg]
      | succ d ihd =>
        intro i a hi ha hb
        have hlt : i < y.f2.length := by omega
        rw [ndsT_drop y.f2 i hlt] at hb ⊢
        have hm := ndsT_mem y.f2 _ (List.getElem_mem hlt)
        obtain ⟨⟨K1, e1⟩, ⟨K2, e2⟩⟩ := ih y.f2[i] (List.getElem_mem hlt) (by omega)
        obtain ⟨⟨K3, e3⟩, ⟨K4, e4⟩⟩ := ihd (i + 1) (a + ndT y.f2[i]) (by omega) (by omega) (by omega)
        have ea : a + ((ndT y.f2[i] + ndsT (y.f2.drop (i + 1)) : Nat) : Int) = a + ndT y.f2[i] + ndsT (y.f2.drop (i + 1)) := by omega
        rw [ea]
        refine ⟨⟨K1 + K3 + 1, fun k hk => ?_⟩, ⟨K2 + K4 + 1, fun k hk => ?_⟩⟩ <;> obtain ⟨k, rfl⟩ := succ_of (show 0 < k by omega)
        · simp (disch := omega) only [spec_SizeOfType.l0, rdIT, if_pos, e1, Option.bind_some, w64, cast1, e3]
        · simp (disch := omega) only [impl_SizeOfType.l0, rdIT, if_pos, e2, Option.bind_some, w64, cast1, e4]
    obtain ⟨⟨K3, e3⟩, ⟨K4, e4⟩⟩ := loop y.f2.length 0 1 (by omega) (by omega) (by simp only [List.drop_zero]; omega)
    have ea : (1 : Int) + ndsT (y.f2.drop 0) = ndT y := by simp only [List.drop_zero]; omega
    rw [ea] at e3 e4
    refine ⟨⟨K3 + 1, fun k hk => ?_⟩, ⟨K4 + 1, fun k hk => ?_⟩⟩ <;> obtain ⟨k, rfl⟩ := succ_of (show 0 < k by omega)
    · simp only [spec_SizeOfType.f]; exact e3 k (by omega)
    · simp only [impl_SizeOfType.f]; exact e4 k (by omega)


mutual
/-- How deep a type is. -/
def dpT : S30 → Nat
  | ⟨_, _, l⟩ => dpsT l + 1
def dpsT : List S30 → Nat
  | [] => 0
  | x :: xs => max (dpT x) (dpsT xs)
end

theorem dpT_eq (y : S30) : dpT y = dpsT y.f2 + 1 := by cases y; simp only [dpT]
theorem dpsT_drop (l : List S30) (i : Nat) (h : i < l.length) : dpsT (l.drop i) = max (dpT l[i]) (dpsT (l.drop (i + 1))) := by
  rw [List.drop_eq_getElem_cons h, dpsT]
mutual
theorem dpT_le : ∀ y : S30, dpT y ≤ ndT y
  | ⟨a, b, l⟩ => by simp only [dpT, ndT]; have := dpsT_le l; omega
theorem dpsT_le : ∀ l : List S30, dpsT l ≤ ndsT l
  | [] => by simp [dpsT, ndsT]
  | x :: xs => by simp only [dpsT, ndsT]; have := dpT_le x; have := dpsT_le xs; omega
end

theorem mx_nat (a b : Nat) : mx (a : Int) (b : Int) = ((max a b : Nat) : Int) := by unfold mx; split <;> omega

theorem depthT_f (y : S30) (sm : SmT y) (hn : ndT y ≤ 1048577) : Ev (fun k => spec_DepthOfType.f k y.f0 y.f1 y.f2) (dpT y) ∧ Ev (fun k => impl_DepthOfType.f k y.f0 y.f1 y.f2) (dpT y) := by
  induction sm with
  | mk y g0 g1 h3 h4 ih =>
    have he := ndT_eq y
    have hd := dpT_eq y
    have hle := dpT_le y
    have loop : ∀ d i (a : Nat), i + d = y.f2.length → a ≤ 1048577 → Ev (fun k => spec_DepthOfType.l0 k a i y.f0 y.f1 y.f2) ((max a (dpsT (y.f2.drop i)) + 1 : Nat) : Int) ∧ Ev (fun k => impl_DepthOfType.l0 k a y.f2 y.f2.length i) ((max a (dpsT (y.f2.drop i)) + 1 : Nat) : Int) := by
      intro d
      induction d with
      | zero =>
        intro i a hi ha
        have e0 : dpsT (y.f2.drop i) = 0 := by rw [List.drop_of_length_le (by omega)]; simp [dpsT]
        have e1 : max a (dpsT (y.f2.drop i)) + 1 = a + 1 := by omega
        rw [e1]
        refine ⟨⟨1, fun k hk => ?_⟩, ⟨1, fun k hk => ?_⟩⟩ <;> obtain ⟨k, rfl⟩ := succ_of (show 0 < k by omega)
        · simp (disch := omega) only [spec_DepthOfType.l0, if_neg, w64, cast1]
        · simp (disch := omega) only [impl_DepthOfType.l0, if_neg, w64, cast1]
      | succ d ihd =>
        intro i a hi ha
        have hlt : i < y.f2.length := by omega
        have hm := ndsT_mem y.f2 _ (List.getElem_mem hlt)
        have hz := dpT_le y.f2[i]
        rw [dpsT_drop y.f2 i hlt]
        obtain ⟨⟨K1, e1⟩, ⟨K2, e2⟩⟩ := ih y.f2[i] (List.getElem_mem hlt) (by omega)
        obtain ⟨⟨K3, e3⟩, ⟨K4, e4⟩⟩ := ihd (i + 1) (max a (dpT y.f2[i])) (by omega) (by omega)
        have ea : max a (max (dpT y.f2[i]) (dpsT (y.f2.drop (i + 1)))) = max (max a (dpT y.f2[i])) (dpsT (y.f2.drop (i + 1))) := by omega
        rw [ea]
        refine ⟨⟨K1 + K3 + 1, fun k hk => ?_⟩, ⟨K2 + K4 + 1, fun k hk => ?_⟩⟩ <;> obtain ⟨k, rfl⟩ := succ_of (show 0 < k by omega)
        · have em : spec_l1Max.f (a : Int) (dpT y.f2[i] : Int) = some ((max a (dpT y.f2[i]) : Nat) : Int) := by
            unfold spec_l1Max.f; split <;> congr 1 <;> omega
          simp (disch := omega) only [spec_DepthOfType.l0, rdIT, if_pos, e1, Option.bind_some, em, w64, cast1, e3]
        · simp (disch := omega) only [impl_DepthOfType.l0, rdIT, if_pos, e2, Option.bind_some, mx_nat, w64, cast1, e4]
    obtain ⟨⟨K3, e3⟩, ⟨K4, e4⟩⟩ := loop y.f2.length 0 0 (by omega) (by omega)
    have ea : max 0 (dpsT (y.f2.drop 0)) + 1 = dpT y := by simp only [List.drop_zero]; omega
    rw [ea] at e3 e4
    refine ⟨⟨K3 + 1, fun k hk => ?_⟩, ⟨K4 + 1, fun k hk => ?_⟩⟩ <;> obtain ⟨k, rfl⟩ := succ_of (show 0 < k by omega)
    · simp only [spec_DepthOfType.f]; exact e3 k (by omega)
    · simp only [impl_DepthOfType.f]; exact e4 k (by omega)

theorem leftT_f (y : S30) (sm : SmT y) (hn : ndT y ≤ 1048577) : ∀ left : Int, 0 ≤ left → left ≤ 1048576 → ∃ r, Ev (fun k => spec_l3Left.f k y.f0 y.f1 y.f2 left) r ∧ r ≤ 1048576 ∧ ((ndT y : Int) ≤ left → r = left - ndT y) ∧ (left < (ndT y : Int) → r < 0) := by
  induction sm with
  | mk y g0 g1 h3 h4 ih =>
    intro left g0 g1
    have he := ndT_eq y
    have loop : ∀ d i (a : Int), i + d = y.f2.length → -1 ≤ a → a ≤ 1048576 → ∃ r, Ev (fun k => spec_l3Left.l0 k a i y.f0 y.f1 y.f2) r ∧ r ≤ 1048576 ∧ ((ndsT (y.f2.drop i) : Int) ≤ a → r = a - ndsT (y.f2.drop i)) ∧ (a < (ndsT (y.f2.drop i) : Int) → r < 0) := by
      intro d
      induction d with
      | zero =>
        intro i a hi ha hb
        have e0 : (ndsT (y.f2.drop i) : Int) = 0 := by rw [List.drop_of_length_le (by omega)]; simp [ndsT]
        rw [e0]
        refine ⟨a, ⟨1, fun k hk => ?_⟩, hb, fun _ => by omega, fun h => h⟩
        obtain ⟨k, rfl⟩ := succ_of (show 0 < k by omega)
        simp (disch := omega) only [spec_l3Left.l0, if_neg]
      | succ d ihd =>
        intro i a hi ha hb
        have hlt : i < y.f2.length := by omega
        rw [ndsT_drop y.f2 i hlt]
        have hm := ndsT_mem y.f2 _ (List.getElem_mem hlt)
        have hp := ndT_eq y.f2[i]
        by_cases hneg : a < 0
        · refine ⟨a, ⟨1, fun k hk => ?_⟩, hb, fun _ => by omega, fun _ => hneg⟩
          obtain ⟨k, rfl⟩ := succ_of (show 0 < k by omega)
          simp (disch := omega) only [spec_l3Left.l0, if_pos, if_neg]
        · obtain ⟨r1, ⟨K1, e1⟩, hb1, q1, q2⟩ := ih y.f2[i] (List.getElem_mem hlt) (by omega) a (by omega) hb
          by_cases hr : (ndT y.f2[i] : Int) ≤ a
          · have hr1 := q1 hr
            obtain ⟨r, ⟨K3, e3⟩, hb3, q3, q4⟩ := ihd (i + 1) r1 (by omega) (by omega) hb1
            refine ⟨r, ⟨K1 + K3 + 1, fun k hk => ?_⟩, hb3, fun h => by rw [q3 (by omega)]; omega, fun h => q4 (by omega)⟩
            obtain ⟨k, rfl⟩ := succ_of (show 0 < k by omega)
            simp (disch := omega) only [spec_l3Left.l0, rdIT, if_pos, e1, Option.bind_some, w64, cast1, e3]
          · have hr1 := q2 (by omega)
            refine ⟨r1, ⟨K1 + 2, fun k hk => ?_⟩, hb1, fun h => by omega, fun _ => hr1⟩
            obtain ⟨k, rfl⟩ : ∃ m, k = m + 2 := ⟨k - 2, by omega⟩
            have e1' := e1 (k + 1) (by omega)
            simp (disch := omega) only [spec_l3Left.l0, rdIT, if_pos, e1', Option.bind_some, w64, cast1, if_neg, ite_self]
    obtain ⟨r, ⟨K3, e3⟩, hb3, q3, q4⟩ := loop y.f2.length 0 (left - 1) (by omega) (by omega) (by omega)
    rw [List.drop_zero] at q3 q4
    refine ⟨r, ⟨K3 + 1, fun k hk => ?_⟩, hb3, fun h => by rw [q3 (by omega)]; omega, fun h => q4 (by omega)⟩
    obtain ⟨k, rfl⟩ := succ_of (show 0 < k by omega)
    have e3' := e3 k (by omega)
    simp only [Int.natCast_zero] at e3'
    simp (disch := omega) only [spec_l3Left.f, w64, e3']


/-- May this byte stand at this place of a name? -/
def okb (s : ByteArray) (i : Int) : Bool := if 97 ≤ bt s i ∧ bt s i ≤ 122 then true else if i = 0 then false else decide (48 ≤ bt s i ∧ bt s i ≤ 57)

/-- So many bytes from a place on may stand in a name. -/
def okn (s : ByteArray) : Nat → Int → Bool
  | 0, _ => true
  | d + 1, i => okb s i && okn s d (i + 1)

theorem byte_ok (s : ByteArray) (i : Int) : impl_nameByte.f (bt s i) (i == 0) = some (okb s i) := by
  unfold impl_nameByte.f okb
  by_cases h0 : i = 0
  · subst h0
    by_cases h1 : bt s 0 ≥ 97 <;> by_cases h2 : bt s 0 ≤ 122 <;> simp [h1, h2]
  · by_cases h1 : bt s i ≥ 97 <;> by_cases h2 : bt s i ≤ 122 <;> by_cases h3 : bt s i ≥ 48 <;> by_cases h4 : bt s i ≤ 57 <;> first | (exfalso; omega) | simp [h0, h1, h2, h3, h4]

theorem okb_ite (s : ByteArray) (i : Int) : (if bt s i ≥ 97 then (if bt s i ≤ 122 then true else (if i = 0 then false else (if bt s i < 48 then false else (if bt s i > 57 then false else true)))) else (if i = 0 then false else (if bt s i < 48 then false else (if bt s i > 57 then false else true)))) = okb s i := by
  unfold okb
  by_cases h2 : bt s i ≥ 97 <;> by_cases h3 : bt s i ≤ 122 <;> by_cases h5 : bt s i < 48 <;> by_cases h6 : bt s i > 57 <;> by_cases h4 : i = 0 <;> first | (exfalso; omega) | (have e1 : 48 ≤ bt s i := by omega) | skip
  all_goals first | (have e2 : ¬ 48 ≤ bt s i := by omega) | skip
  all_goals first | (have e3 : bt s i ≤ 57 := by omega) | (have e3 : ¬ bt s i ≤ 57 := by omega)
  all_goals simp [*]

theorem name_spec_loop (s : ByteArray) (hn : s.size ≤ 140737488351232) (d : Nat) : ∀ (k : Nat) (i : Int), 0 ≤ i → i + d = s.size → d < k →
    spec_IsName.l0 k s i = some (okn s d i && (decide (1 ≤ s.size) && decide (s.size ≤ 4))) := by
  induction d with
  | zero =>
    intro k i h0 h1 hk
    obtain ⟨k, rfl⟩ := succ_of hk
    simp only [spec_IsName.l0, spec_l1In.f]
    rw [if_neg (by omega)]
    have e : decide ((s.size : Int) ≤ 4) = decide (s.size ≤ 4) := decide_eq_decide.mpr (by omega)
    by_cases h : (s.size : Int) ≥ 1
    · have h' : 1 ≤ s.size := by omega
      rw [if_pos h, e]; simp [h', okn]
    · have h' : s.size = 0 := by omega
      rw [if_neg h]; simp [h', okn]
  | succ d ih =>
    intro k i h0 h1 hk
    obtain ⟨k, rfl⟩ := succ_of hk
    have hi := ih k (i + 1) (by omega) (by omega) (by omega)
    simp (disch := omega) only [spec_IsName.l0, if_pos, w64]
    rw [hi]
    simp only [okn]
    rw [← okb_ite]
    repeat' split
    all_goals first | (exfalso; omega) | simp_all

theorem name_impl_loop (s : ByteArray) (hn : s.size ≤ 140737488351232) (d : Nat) : ∀ (k : Nat) (i : Int), 0 ≤ i → i + d = s.size → d < k →
    impl_IsName.l0 k s (s.size : Int) i = some (okn s d i) := by
  induction d with
  | zero =>
    intro k i h0 h1 hk
    obtain ⟨k, rfl⟩ := succ_of hk
    simp (disch := omega) only [impl_IsName.l0, if_neg, okn]
  | succ d ih =>
    intro k i h0 h1 hk
    obtain ⟨k, rfl⟩ := succ_of hk
    have hi := ih k (i + 1) (by omega) (by omega) (by omega)
    simp (disch := omega) only [impl_IsName.l0, if_pos, w64, byte_ok]
    rw [hi]
    simp only [okn, Option.bind_some]
    cases okb s i <;> simp

/-- Is this a name? -/
def nmok (s : ByteArray) : Bool := okn s s.size 0 && (decide (1 ≤ s.size) && decide (s.size ≤ 4))

theorem name_spec (s : ByteArray) (hn : s.size ≤ 140737488351232) (k : Nat) (hk : s.size < k) : spec_IsName.f k s = some (nmok s) :=
  name_spec_loop s hn s.size k 0 (by omega) (by omega) hk

theorem name_impl (s : ByteArray) (hn : s.size ≤ 140737488351232) (k : Nat) (hk : s.size + 1 < k) : impl_IsName.f k s = some (nmok s) := by
  obtain ⟨k, rfl⟩ := succ_of hk
  have hi := name_impl_loop s hn s.size k 0 (by omega) (by omega) (by omega)
  unfold nmok
  simp only [impl_IsName.f, impl_IsName.j0, hi]
  by_cases h : (s.size : Int) = 0
  · have h' : s.size = 0 := by omega
    rw [if_pos h]; simp [h']
  · have h' : 1 ≤ s.size := by omega
    rw [if_neg h]
    by_cases h4 : (s.size : Int) > 4
    · have h4' : ¬ s.size ≤ 4 := by omega
      simp [h4, h4']
    · have h4' : s.size ≤ 4 := by omega
      simp [h', h4']; omega

theorem nmok_empty : nmok ⟨#[]⟩ = false := by decide

/-- Do the texts from the i-th on ascend, so many of them? -/
def ascN (l : List ByteArray) : Nat → Nat → Bool
  | 0, _ => true
  | d + 1, i => if i < l.length then (Op.bytesLess ((rdOf ByteArray.empty l ((i : Int) - 1)).toList) ((rdOf ByteArray.empty l (i : Int)).toList) && ascN l d (i + 1)) else true
def asc (l : List ByteArray) : Bool := ascN l l.length 1

theorem asc_loop (l : List ByteArray) (hl : l.length ≤ 1048576) (d : Nat) : ∀ (i : Nat), 1 ≤ i → l.length ≤ i + d → ∀ k, d < k → spec_AreAscending.l0 k l i = some (ascN l d i) ∧ impl_AreAscending.l0 k l i = some (ascN l d i) := by
  induction d with
  | zero =>
    intro i h1 hi k hk
    obtain ⟨k, rfl⟩ := succ_of hk
    simp (disch := omega) only [spec_AreAscending.l0, impl_AreAscending.l0, if_neg, ascN, and_self]
  | succ d ih =>
    intro i h1 hi k hk
    obtain ⟨k, rfl⟩ := succ_of hk
    by_cases hlt : i < l.length
    · obtain ⟨r1, r2⟩ := ih (i + 1) (by omega) (by omega) k (by omega)
      by_cases he : (Op.bytesLess ((rdOf ByteArray.empty l ((i : Int) - 1)).toList) ((rdOf ByteArray.empty l (i : Int)).toList)) = true
      · simp (disch := omega) only [spec_AreAscending.l0, impl_AreAscending.l0, ascN, if_pos hlt, w64, cast1, if_pos, if_pos he, r1, r2, he, Bool.true_and, if_true, and_self]
      · simp (disch := omega) only [spec_AreAscending.l0, impl_AreAscending.l0, ascN, if_pos hlt, w64, cast1, if_pos, if_neg he, Bool.eq_false_iff.mpr he, Bool.false_and, Bool.false_eq_true, if_false, and_self]
    · simp (disch := omega) only [spec_AreAscending.l0, impl_AreAscending.l0, ascN, if_neg hlt, if_neg, and_self]

theorem asc_f (l : List ByteArray) (hl : l.length ≤ 1048576) (k : Nat) (hk : l.length < k) : spec_AreAscending.f k l = some (asc l) ∧ impl_AreAscending.f k l = some (asc l) := asc_loop l hl l.length 1 (by omega) (by omega) k hk

/-- Are these labels in order? -/
def lab (l : List ByteArray) : Bool := l.all nmok && (decide (1 ≤ l.length) && decide (l.length ≤ 4) && asc l)

theorem l1In_f (a b c : Int) : spec_l1In.f a b c = some (decide (b ≤ a) && decide (a ≤ c)) := by
  unfold spec_l1In.f
  by_cases h : a ≥ b
  · have h' : b ≤ a := h
    simp [h']
  · have h' : ¬ b ≤ a := h
    simp [h']

theorem all_drop (l : List ByteArray) (i : Nat) (h : i < l.length) : (l.drop i).all nmok = (nmok l[i] && (l.drop (i + 1)).all nmok) := by
  rw [List.drop_eq_getElem_cons h, List.all_cons]

theorem lab_f (l : List ByteArray) (hl : l.length ≤ 1048576) (hs : ∀ s ∈ l, s.size ≤ 1048576) : Ev (fun k => spec_l3Labels.f k l) (lab l) ∧ Ev (fun k => impl_labelsOk.f k l) (lab l) := by
  obtain ⟨K, hK⟩ : ∃ K, ∀ s ∈ l, s.size + 1 < K := ⟨tot l + 2, fun s h => by have := tot_mem l s h; omega⟩
  have c1 : decide ((1 : Int) ≤ (l.length : Int)) = decide (1 ≤ l.length) := decide_eq_decide.mpr (by omega)
  have c4 : decide ((l.length : Int) ≤ 4) = decide (l.length ≤ 4) := decide_eq_decide.mpr (by omega)
  have loop1 : ∀ d i, i + d = l.length → ∀ k, K + l.length + d + 1 < k → spec_l3Labels.l0 k l i = some ((l.drop i).all nmok && (decide (1 ≤ l.length) && decide (l.length ≤ 4) && asc l)) := by
    intro d
    induction d with
    | zero =>
      intro i hi k hk
      obtain ⟨k, rfl⟩ := succ_of (show 0 < k by omega)
      have ha := (asc_f l hl k (by omega)).1
      rw [List.drop_of_length_le (by omega)]
      simp (disch := omega) only [spec_l3Labels.l0, if_neg, l1In_f, Option.bind_some, ha, c1, c4]
      cases h : (decide (1 ≤ l.length) && decide (l.length ≤ 4)) <;> simp
    | succ d ih =>
      intro i hi k hk
      obtain ⟨k, rfl⟩ := succ_of (show 0 < k by omega)
      have hlt : i < l.length := by omega
      have hm := hs _ (List.getElem_mem hlt)
      have hm2 := hK _ (List.getElem_mem hlt)
      have hn := name_spec l[i] (by omega) k (by omega)
      have e := ih (i + 1) (by omega) k (by omega)
      rw [all_drop l i hlt]
      simp (disch := omega) only [spec_l3Labels.l0, rd_at, if_pos, hn, Option.bind_some, w64, cast1, e]
      cases nmok l[i] <;> simp
  have loop2 : ∀ d i, i + d = l.length → ∀ k, K + l.length + d + 1 < k → impl_labelsOk.l0 k l (l.length : Int) i = some ((l.drop i).all nmok) := by
    intro d
    induction d with
    | zero =>
      intro i hi k hk
      obtain ⟨k, rfl⟩ := succ_of (show 0 < k by omega)
      rw [List.drop_of_length_le (by omega)]
      simp (disch := omega) only [impl_labelsOk.l0, if_neg, List.all_nil]
    | succ d ih =>
      intro i hi k hk
      obtain ⟨k, rfl⟩ := succ_of (show 0 < k by omega)
      have hlt : i < l.length := by omega
      have hm := hs _ (List.getElem_mem hlt)
      have hm2 := hK _ (List.getElem_mem hlt)
      have hn := name_impl l[i] (by omega) k (by omega)
      have e := ih (i + 1) (by omega) k (by omega)
      rw [all_drop l i hlt]
      simp (disch := omega) only [impl_labelsOk.l0, rd_at, if_pos, hn, Option.bind_some, w64, cast1, e]
      cases nmok l[i] <;> simp
  refine ⟨⟨K + l.length + l.length + 2, fun k hk => ?_⟩, ⟨K + l.length + l.length + 3, fun k hk => ?_⟩⟩
  · exact loop1 l.length 0 (by omega) k (by omega)
  · have e := loop2 l.length 0 (by omega)
    simp only [List.drop_zero, Int.natCast_zero] at e
    obtain ⟨k, rfl⟩ := succ_of (show 0 < k by omega)
    have ha := (asc_f l hl (k + 1) (by omega)).2
    have e' := e k (by omega)
    simp only [impl_labelsOk.f, impl_labelsOk.j0, ha, Option.bind_some, e', lab]
    by_cases h1 : (l.length : Int) < 1
    · have h1' : ¬ 1 ≤ l.length := by omega
      simp [h1, h1']
    · have h1' : 1 ≤ l.length := by omega
      by_cases h4 : (l.length : Int) > 4
      · have h4' : ¬ l.length ≤ 4 := by omega
        simp only [if_neg h1, if_pos h4, if_true]
        simp [h1', h4']
      · have h4' : l.length ≤ 4 := by omega
        simp only [if_neg h1, if_neg h4]
        cases asc l <;> simp [h1', h4']

/-- Is a type well formed, its parts left aside? -/
def lfT (y : S30) : Bool :=
  if y.f0 = 1 ∨ y.f0 = 2 then decide (y.f1.length = 0) && decide (y.f2.length = 0)
  else if y.f0 = 3 ∨ y.f0 = 4 then decide (y.f1.length = y.f2.length) && lab y.f1
  else if y.f0 = 5 then decide (y.f1.length = 0) && decide (y.f2.length = 1) else false

mutual
/-- Is a type well formed? -/
def fmT : S30 → Bool
  | ⟨a, b, l⟩ => fmsT l && lfT ⟨a, b, l⟩
def fmsT : List S30 → Bool
  | [] => true
  | x :: xs => fmT x && fmsT xs
end

theorem fmT_eq (y : S30) : fmT y = (fmsT y.f2 && lfT y) := by cases y; simp only [fmT]
theorem fmsT_drop (l : List S30) (i : Nat) (h : i < l.length) : fmsT (l.drop i) = (fmT l[i] && fmsT (l.drop (i + 1))) := by
  rw [List.drop_eq_getElem_cons h, fmsT]

theorem dec_len (n : Nat) (c : Nat) : ((n : Int) == (c : Int)) = decide (n = c) := by
  by_cases h : n = c
  · subst h; simp
  · have h2 : ¬ (n : Int) = (c : Int) := by omega
    simp [h, h2]

theorem j_spec (y : S30) (h1 : y.f1.length ≤ 1048576) (h2 : ∀ s ∈ y.f1, s.size ≤ 1048576) (b : Bool) (hb : b = decide (y.f0 = 1 ∨ y.f0 = 2)) : Ev (fun k => spec_l3Form.j1 k y.f0 b y.f0 y.f1 y.f2) (lfT y) := by
  obtain ⟨⟨K, e⟩, -⟩ := lab_f y.f1 h1 h2
  refine ⟨K + 3, fun k hk => ?_⟩
  obtain ⟨k, rfl⟩ : ∃ m, k = m + 2 := ⟨k - 2, by omega⟩
  have e' := e k (by omega)
  have d0 := dec_len y.f2.length 0
  have d1 := dec_len y.f2.length 1
  simp only [Int.natCast_zero, Int.natCast_one] at d0 d1
  simp only [spec_l3Form.j1, spec_l3Form.j2, e', Option.bind_some, lfT, hb, d0, d1]
  by_cases a : y.f0 = 1 ∨ y.f0 = 2
  · by_cases z : y.f1.length = 0
    · have z' : y.f1 = [] := List.length_eq_zero_iff.mp z
      simp [a, z']
    · have z' : ¬ (y.f1.length : Int) = 0 := by omega
      simp only [a, decide_true, if_true, if_neg z', z, decide_false, Bool.false_and]
  · have s0 : decide (y.f0 = 1 ∨ y.f0 = 2) = false := by simpa using a
    have s1 : (if y.f0 = 3 then (y.f0 == 3) else (y.f0 == 4)) = decide (y.f0 = 3 ∨ y.f0 = 4) := by
      by_cases h3 : y.f0 = 3
      · simp [h3]
      · by_cases h4 : y.f0 = 4 <;> simp [h3, h4]
    rw [s0, if_neg (by simp), if_neg a]
    by_cases b3 : y.f0 = 3 ∨ y.f0 = 4
    · have t3 : (y.f0 == 3) = true ∨ (y.f0 ≠ 3 ∧ (y.f0 == 4) = true) := by
        rcases b3 with b3 | b3
        · exact .inl (by simp [b3])
        · exact .inr (by simp [b3])
      by_cases z : y.f1.length = y.f2.length
      · have z' : (y.f2.length : Int) = (y.f1.length : Int) := by omega
        rcases b3 with b3 | b3 <;> simp [b3, z', z]
      · have z' : ¬ (y.f2.length : Int) = (y.f1.length : Int) := by omega
        have z'' : ¬ y.f2.length = y.f1.length := by omega
        rcases b3 with b3 | b3 <;> simp [b3, z', z'', z]
    · have n3 : ¬ y.f0 = 3 := fun h => b3 (.inl h)
      have n4 : ¬ y.f0 = 4 := fun h => b3 (.inr h)
      by_cases h5 : y.f0 = 5
      · by_cases z : y.f1.length = 0
        · have z' : y.f1 = [] := List.length_eq_zero_iff.mp z
          simp [h5, z']
        · have z' : ¬ (y.f1.length : Int) = 0 := by omega
          simp only [h5, if_neg z']
          simp [z]
      · simp [n3, n4, h5]

theorem formT_spec (y : S30) (sm : SmT y) : Ev (fun k => spec_l3Form.f k y.f0 y.f1 y.f2) (fmT y) := by
  induction sm with
  | mk y h0 h1 h3 h4 ih =>
    obtain ⟨K0, e0⟩ := j_spec y h1.1 h1.2 (decide (y.f0 = 1 ∨ y.f0 = 2)) rfl
    have loop : ∀ d i, i + d = y.f2.length → Ev (fun k => spec_l3Form.l0 k i y.f0 y.f1 y.f2) (fmsT (y.f2.drop i) && lfT y) := by
      intro d
      induction d with
      | zero =>
        intro i hi'
        have e1 : fmsT (y.f2.drop i) = true := by rw [List.drop_of_length_le (by omega)]; simp [fmsT]
        rw [e1, Bool.true_and]
        refine ⟨K0 + 1, fun k hk => ?_⟩
        obtain ⟨k, rfl⟩ := succ_of (show 0 < k by omega)
        have e0' := e0 k (by omega)
        simp (disch := omega) only [spec_l3Form.l0, if_neg]
        by_cases a : y.f0 = 1
        · have s : (y.f0 == 1) = decide (y.f0 = 1 ∨ y.f0 = 2) := by simp [a]
          rw [if_pos a, s]; exact e0'
        · have s : (y.f0 == 2) = decide (y.f0 = 1 ∨ y.f0 = 2) := by
            by_cases a2 : y.f0 = 2 <;> simp [a, a2]
          rw [if_neg a, s]; exact e0'
      | succ d ihd =>
        intro i hi'
        have hlt : i < y.f2.length := by omega
        obtain ⟨K1, e1⟩ := ih y.f2[i] (List.getElem_mem hlt)
        obtain ⟨K2, e2⟩ := ihd (i + 1) (by omega)
        rw [fmsT_drop y.f2 i hlt]
        refine ⟨K1 + K2 + 1, fun k hk => ?_⟩
        obtain ⟨k, rfl⟩ := succ_of (show 0 < k by omega)
        simp (disch := omega) only [spec_l3Form.l0, rdIT, if_pos, e1, Option.bind_some, w64, cast1, e2]
        cases fmT y.f2[i] <;> simp
    obtain ⟨K, e⟩ := loop y.f2.length 0 (by omega)
    rw [fmT_eq]
    refine ⟨K + 1, fun k hk => ?_⟩
    obtain ⟨k, rfl⟩ := succ_of (show 0 < k by omega)
    have e' := e k (by omega)
    simp only [Int.natCast_zero, List.drop_zero] at e'
    simp only [spec_l3Form.f, e']

theorem formT_impl (y : S30) (sm : SmT y) : Ev (fun k => impl_typeFormed.f k y.f0 y.f1 y.f2) (fmT y) := by
  induction sm with
  | mk y h0 h1 h3 h4 ih =>
    obtain ⟨-, ⟨K0, e0⟩⟩ := lab_f y.f1 h1.1 h1.2
    have loop : ∀ d i, i + d = y.f2.length → ∀ b, Ev (fun k => impl_typeFormed.l0 k b y.f2 (y.f2.length : Int) i) (fmsT (y.f2.drop i) && b) := by
      intro d
      induction d with
      | zero =>
        intro i hi' b
        have e1 : fmsT (y.f2.drop i) = true := by rw [List.drop_of_length_le (by omega)]; simp [fmsT]
        rw [e1, Bool.true_and]
        refine ⟨1, fun k hk => ?_⟩
        obtain ⟨k, rfl⟩ := succ_of (show 0 < k by omega)
        simp (disch := omega) only [impl_typeFormed.l0, if_neg]
      | succ d ihd =>
        intro i hi' b
        have hlt : i < y.f2.length := by omega
        obtain ⟨K1, e1⟩ := ih y.f2[i] (List.getElem_mem hlt)
        obtain ⟨K2, e2⟩ := ihd (i + 1) (by omega) (fmT y.f2[i])
        obtain ⟨K3, e3⟩ := ihd (i + 1) (by omega) false
        rw [fmsT_drop y.f2 i hlt]
        refine ⟨K1 + K2 + K3 + 1, fun k hk => ?_⟩
        obtain ⟨k, rfl⟩ := succ_of (show 0 < k by omega)
        simp (disch := omega) only [impl_typeFormed.l0, rdIT, if_pos, e1, Option.bind_some, w64, cast1, e2, e3]
        cases b <;> cases fmT y.f2[i] <;> simp
    obtain ⟨K1, e1⟩ := loop y.f2.length 0 (by omega) true
    obtain ⟨K2, e2⟩ := loop y.f2.length 0 (by omega) false
    have eb : ∀ b, ∀ k, K1 + K2 ≤ k → impl_typeFormed.l0 k b y.f2 (y.f2.length : Int) 0 = some (fmsT y.f2 && b) := by
      intro b k hk
      cases b
      · have := e2 k (by omega); simpa using this
      · have := e1 k (by omega); simpa using this
    rw [fmT_eq]
    refine ⟨K0 + K1 + K2 + 4, fun k hk => ?_⟩
    obtain ⟨k, rfl⟩ : ∃ m, k = m + 4 := ⟨k - 4, by omega⟩
    have e0' := e0 (k + 1) (by omega)
    have d0 := dec_len y.f2.length 0
    have d1 := dec_len y.f2.length 1
    simp only [Int.natCast_zero, Int.natCast_one] at d0 d1
    simp (disch := omega) only [impl_typeFormed.f, impl_typeFormed.j0, impl_typeFormed.j1, impl_typeFormed.j2, e0', eb, Option.bind_some, lfT, d0, d1]
    by_cases a : y.f0 = 1 ∨ y.f0 = 2
    · by_cases z : y.f1.length = 0
      · have z' : y.f1 = [] := List.length_eq_zero_iff.mp z
        rcases a with a | a <;> simp [a, z']
      · have z' : ¬ (y.f1.length : Int) = 0 := by omega
        rcases a with a | a <;> simp only [a, if_neg z'] <;> simp [z]
    · have n1 : ¬ y.f0 = 1 := fun h => a (.inl h)
      have n2 : ¬ y.f0 = 2 := fun h => a (.inr h)
      have q2 : (y.f0 == 2) = false := by simpa using n2
      rw [if_neg n1, q2, if_neg (by simp), if_neg a]
      by_cases b3 : y.f0 = 3 ∨ y.f0 = 4
      · by_cases z : y.f1.length = y.f2.length
        · have z' : (y.f1.length : Int) = (y.f2.length : Int) := by omega
          rcases b3 with b3 | b3 <;> simp [b3, z', z]
        · have z' : ¬ (y.f1.length : Int) = (y.f2.length : Int) := by omega
          rcases b3 with b3 | b3 <;> simp [b3, z', z]
      · have n3 : ¬ y.f0 = 3 := fun h => b3 (.inl h)
        have n4 : ¬ y.f0 = 4 := fun h => b3 (.inr h)
        by_cases h5 : y.f0 = 5
        · by_cases z : y.f1.length = 0
          · have z' : y.f1 = [] := List.length_eq_zero_iff.mp z
            simp [h5, z']
          · have z' : ¬ (y.f1.length : Int) = 0 := by omega
            simp only [h5, if_neg z']
            simp [z]
        · simp [n3, n4, h5]

/-- Is it a type? -/
def isT (y : S30) : Bool := decide (ndT y ≤ 30) && (decide (dpT y ≤ 8) && fmT y)

theorem isT_f (y : S30) (sm : SmT y) (hn : ndT y ≤ 1048577) : Ev (fun k => spec_IsValidType.f k y.f0 y.f1 y.f2) (isT y) ∧ Ev (fun k => impl_IsValidType.f k y.f0 y.f1 y.f2) (isT y) := by
  obtain ⟨r, ⟨K1, e1⟩, -, q1, q2⟩ := leftT_f y sm hn 30 (by omega) (by omega)
  obtain ⟨⟨K2, e2⟩, ⟨K3, e3⟩⟩ := depthT_f y sm hn
  obtain ⟨K4, e4⟩ := formT_spec y sm
  obtain ⟨K5, e5⟩ := formT_impl y sm
  obtain ⟨-, ⟨K6, e6⟩⟩ := sizeT_f y sm hn
  have c8 : ((dpT y : Int) ≤ 8) = (dpT y ≤ 8) := by apply propext; omega
  have c30 : ((ndT y : Int) ≤ 30) = (ndT y ≤ 30) := by apply propext; omega
  have cr : (r ≥ 0) = (ndT y ≤ 30) := by
    apply propext
    by_cases h : (ndT y : Int) ≤ 30
    · have := q1 h; omega
    · have := q2 (by omega); omega
  refine ⟨⟨K1 + K2 + K4, fun k hk => ?_⟩, ⟨K3 + K5 + K6, fun k hk => ?_⟩⟩
  · simp only [spec_IsValidType.f, e1 k (by omega), e2 k (by omega), e4 k (by omega), Option.bind_some, cr, c8, isT]
    by_cases a : ndT y ≤ 30 <;> by_cases b : dpT y ≤ 8 <;> simp [a, b]
  · simp only [impl_IsValidType.f, e6 k (by omega), e3 k (by omega), e5 k (by omega), Option.bind_some, c30, c8, isT]
    by_cases a : ndT y ≤ 30 <;> by_cases b : dpT y ≤ 8 <;> simp [a, b]

theorem strOf_bytes (s : ByteArray) : strOfNums (bytesOf s) = s := by
  obtain ⟨⟨l⟩⟩ := s
  have : (bytesOf ⟨⟨l⟩⟩).map (fun n => UInt8.ofNat n.toNat) = l := by
    simp [bytesOf, List.map_map, Function.comp_def]
  unfold strOfNums
  rw [this]

theorem bytes_inj {s t : ByteArray} (h : bytesOf s = bytesOf t) : s = t := by
  rw [← strOf_bytes s, h, strOf_bytes]

theorem ext_data (s : ByteArray) (a b : Nat) : (s.extract a b).data.toList = (s.data.toList.drop a).take (b - a) := by
  obtain ⟨⟨l⟩⟩ := s
  rw [ByteArray.extract_mk]

theorem bytes_extract (s : ByteArray) (a b : Nat) : bytesOf (s.extract a b) = ((bytesOf s).drop a).take (b - a) := by
  unfold bytesOf
  rw [ext_data, List.map_take, List.map_drop]

theorem bytes_append (s t : ByteArray) : bytesOf (s ++ t) = bytesOf s ++ bytesOf t := by
  obtain ⟨⟨l⟩⟩ := s
  obtain ⟨⟨m⟩⟩ := t
  simp [bytesOf]

theorem bytes_get (s : ByteArray) (i : Nat) (h : i < s.size) : (bytesOf s)[i]? = some (bt s i) := by
  rw [← rd_bytesOf]
  have h' : i < (bytesOf s).length := by rw [bytesOf_length]; exact h
  simp [rd, List.getElem?_eq_getElem h']

theorem bytes_take (s : ByteArray) (i : Nat) (h : i < s.size) : (bytesOf s).take (i + 1) = (bytesOf s).take i ++ [bt s i] := by
  have h' : i < (bytesOf s).length := by rw [bytesOf_length]; exact h
  have hg := bytes_get s i h
  rw [List.getElem?_eq_getElem h'] at hg
  rw [List.take_succ_eq_append_getElem h', Option.some.inj hg]

theorem bytes_one (m : Nat) (h : m < 10) : bytesOf (strOfNums [48 + (m : Int)]) = [48 + (m : Int)] := by
  simp [bytesOf, strOfNums]; omega

theorem toList_iff (s t : ByteArray) : s.toList = t.toList ↔ s = t := by
  constructor
  · intro h
    rw [ByteArray.toList_eq, ByteArray.toList_eq] at h
    apply bytes_inj
    unfold bytesOf
    rw [h]
  · rintro rfl; rfl

theorem lst_step {α : Type} (a b : List α) (i : Nat) (ha : i < a.length) (hb : i < b.length) : (a.drop i = b.drop i) ↔ (a[i] = b[i] ∧ a.drop (i + 1) = b.drop (i + 1)) := by
  rw [List.drop_eq_getElem_cons ha, List.drop_eq_getElem_cons hb, List.cons.injEq]

open Classical in
theorem texts_f (l m : List ByteArray) (hl : l.length ≤ 1048576) : Ev (fun k => spec_l3Texts.f k l m) (decide (l = m)) ∧ Ev (fun k => impl_sameStrings.f k l m) (decide (l = m)) := by
  by_cases hlen : l.length = m.length
  · have hz : (l.length : Int) = (m.length : Int) := by omega
    have loop : ∀ d i, i + d = l.length → ∀ k, d < k → spec_l3Texts.l0 k l m i = some (decide (l.drop i = m.drop i)) ∧ impl_sameStrings.l0 k l m (l.length : Int) i = some (decide (l.drop i = m.drop i)) := by
      intro d
      induction d with
      | zero =>
        intro i hi k hk
        obtain ⟨k, rfl⟩ := succ_of (show 0 < k by omega)
        have e : l.drop i = m.drop i := by rw [List.drop_of_length_le (by omega), List.drop_of_length_le (by omega)]
        simp (disch := omega) only [spec_l3Texts.l0, impl_sameStrings.l0, if_neg, e, decide_true, and_self]
      | succ d ih =>
        intro i hi k hk
        obtain ⟨k, rfl⟩ := succ_of (show 0 < k by omega)
        have h1 : i < l.length := by omega
        have h2 : i < m.length := by omega
        obtain ⟨e1, e2⟩ := ih (i + 1) (by omega) k (by omega)
        have es : decide (l.drop i = m.drop i) = decide (l[i] = m[i] ∧ l.drop (i + 1) = m.drop (i + 1)) := decide_eq_decide.mpr (lst_step l m i h1 h2)
        rw [es]
        simp (disch := omega) only [spec_l3Texts.l0, impl_sameStrings.l0, rd_at, if_pos, w64, cast1, e1, e2, toList_iff]
        by_cases h : l[i] = m[i] <;> simp [h]
    refine ⟨⟨l.length + 1, fun k hk => ?_⟩, ⟨l.length + 1, fun k hk => ?_⟩⟩
    · have := (loop l.length 0 (by omega) k (by omega)).1
      simp only [List.drop_zero, Int.natCast_zero] at this
      simp only [spec_l3Texts.f, if_pos hz, this]
    · have := (loop l.length 0 (by omega) k (by omega)).2
      simp only [List.drop_zero, Int.natCast_zero] at this
      simp only [impl_sameStrings.f, if_pos hz, this]
  · have hz : ¬ (l.length : Int) = (m.length : Int) := by omega
    have hn : ¬ l = m := fun h => hlen (by rw [h])
    exact ⟨⟨0, fun k hk => by simp only [spec_l3Texts.f, if_neg hz, hn, decide_false]⟩, ⟨0, fun k hk => by simp only [impl_sameStrings.f, if_neg hz, hn, decide_false]⟩⟩

theorem sT_iff (y z : S30) : y = z ↔ (y.f0 = z.f0 ∧ y.f1 = z.f1 ∧ y.f2 = z.f2) := by
  cases y; cases z; simp

open Classical in
theorem eqT_f (y : S30) (sm : SmT y) : ∀ z : S30, Ev (fun k => spec_EqualType.f k y.f0 y.f1 y.f2 z.f0 z.f1 z.f2) (decide (y = z)) ∧ Ev (fun k => impl_EqualType.f k y.f0 y.f1 y.f2 z.f0 z.f1 z.f2) (decide (y = z)) := by
  induction sm with
  | mk y h0 h1 h3 h4 ih =>
    intro z
    obtain ⟨⟨K1, e1⟩, ⟨K2, e2⟩⟩ := texts_f y.f1 z.f1 h1.1
    have hi := sT_iff y z
    by_cases a0 : y.f0 = z.f0
    · by_cases a1 : y.f1 = z.f1
      · by_cases a2 : y.f2.length = z.f2.length
        · have loop : ∀ d i, i + d = y.f2.length → Ev (fun k => spec_EqualType.l0 k i y.f0 y.f1 y.f2 z.f0 z.f1 z.f2) (decide (y.f2.drop i = z.f2.drop i)) ∧ Ev (fun k => impl_EqualType.l0 k (y.f2.length : Int) i y.f0 y.f1 y.f2 z.f0 z.f1 z.f2) (decide (y.f2.drop i = z.f2.drop i)) := by
            intro d
            induction d with
            | zero =>
              intro i hi'
              have e : y.f2.drop i = z.f2.drop i := by rw [List.drop_of_length_le (by omega), List.drop_of_length_le (by omega)]
              simp only [e, decide_true]
              refine ⟨⟨1, fun k hk => ?_⟩, ⟨1, fun k hk => ?_⟩⟩ <;> obtain ⟨k, rfl⟩ := succ_of (show 0 < k by omega)
              · simp (disch := omega) only [spec_EqualType.l0, if_neg]
              · simp (disch := omega) only [impl_EqualType.l0, if_neg]
            | succ d ihd =>
              intro i hi'
              have b1 : i < y.f2.length := by omega
              have b2 : i < z.f2.length := by omega
              obtain ⟨⟨K3, e3⟩, ⟨K4, e4⟩⟩ := ih y.f2[i] (List.getElem_mem b1) z.f2[i]
              obtain ⟨⟨K5, e5⟩, ⟨K6, e6⟩⟩ := ihd (i + 1) (by omega)
              have es : decide (y.f2.drop i = z.f2.drop i) = decide (y.f2[i] = z.f2[i] ∧ y.f2.drop (i + 1) = z.f2.drop (i + 1)) := decide_eq_decide.mpr (lst_step y.f2 z.f2 i b1 b2)
              rw [es]
              refine ⟨⟨K3 + K5 + 1, fun k hk => ?_⟩, ⟨K4 + K6 + 1, fun k hk => ?_⟩⟩ <;> obtain ⟨k, rfl⟩ := succ_of (show 0 < k by omega)
              · simp (disch := omega) only [spec_EqualType.l0, rdIT, if_pos, e3, Option.bind_some, w64, cast1, e5]
                by_cases h : y.f2[i] = z.f2[i] <;> simp [h]
              · simp (disch := omega) only [impl_EqualType.l0, rdIT, if_pos, e4, Option.bind_some, w64, cast1, e6]
                by_cases h : y.f2[i] = z.f2[i] <;> simp [h]
          obtain ⟨⟨K3, e3⟩, ⟨K4, e4⟩⟩ := loop y.f2.length 0 (by omega)
          simp only [List.drop_zero, Int.natCast_zero] at e3 e4
          have hd : decide (y = z) = decide (y.f2 = z.f2) := decide_eq_decide.mpr ⟨fun h => (hi.1 h).2.2, fun h => hi.2 ⟨a0, a1, h⟩⟩
          have hb : ((y.f2.length : Int) != (z.f2.length : Int)) = false := by simp [a2]
          rw [hd]
          refine ⟨⟨K1 + K3 + 2, fun k hk => ?_⟩, ⟨K2 + K4 + 2, fun k hk => ?_⟩⟩ <;> obtain ⟨k, rfl⟩ : ∃ m, k = m + 2 := ⟨k - 2, by omega⟩
          · have e1' := e1 (k + 1) (by omega)
            simp only [a1, decide_true] at e1'
            have e3' := e3 k (by omega)
            simp only [spec_EqualType.f, spec_EqualType.j0, if_pos a0, e1', Option.bind_some, a1, decide_true, if_true, hb, Bool.false_eq_true, if_false]
            rw [a1] at e3'
            exact e3'
          · have e2' := e2 (k + 1) (by omega)
            simp only [a1, decide_true] at e2'
            have e4' := e4 k (by omega)
            simp only [impl_EqualType.f, impl_EqualType.j0, if_pos a0, e2', Option.bind_some, a1, decide_true, if_true, hb, Bool.false_eq_true, if_false]
            rw [a1] at e4'
            exact e4'
        · have hn : ¬ y = z := fun h => a2 (by rw [h])
          have hb : ((y.f2.length : Int) != (z.f2.length : Int)) = true := bne_iff_ne.mpr (by omega)
          simp only [hn, decide_false]
          refine ⟨⟨K1 + 2, fun k hk => ?_⟩, ⟨K2 + 2, fun k hk => ?_⟩⟩ <;> obtain ⟨k, rfl⟩ : ∃ m, k = m + 2 := ⟨k - 2, by omega⟩
          · have e1' := e1 (k + 1) (by omega)
            simp only [a1, decide_true] at e1'
            simp only [spec_EqualType.f, spec_EqualType.j0, if_pos a0, e1', Option.bind_some, a1, decide_true, if_true, hb]
          · have e2' := e2 (k + 1) (by omega)
            simp only [a1, decide_true] at e2'
            simp only [impl_EqualType.f, impl_EqualType.j0, if_pos a0, e2', Option.bind_some, a1, decide_true, if_true, hb]
      · have hn : ¬ y = z := fun h => a1 (by rw [h])
        simp only [hn, decide_false]
        refine ⟨⟨K1 + 2, fun k hk => ?_⟩, ⟨K2 + 2, fun k hk => ?_⟩⟩ <;> obtain ⟨k, rfl⟩ : ∃ m, k = m + 2 := ⟨k - 2, by omega⟩
        · have e1' := e1 (k + 1) (by omega)
          simp only [spec_EqualType.f, spec_EqualType.j0, if_pos a0, e1', Option.bind_some, a1, decide_false, if_true, Bool.false_eq_true, if_false]
        · have e2' := e2 (k + 1) (by omega)
          simp only [impl_EqualType.f, impl_EqualType.j0, if_pos a0, e2', Option.bind_some, a1, decide_false, if_true, Bool.false_eq_true, if_false]
    · have hn : ¬ y = z := fun h => a0 (by rw [h])
      simp only [hn, decide_false]
      refine ⟨⟨2, fun k hk => ?_⟩, ⟨2, fun k hk => ?_⟩⟩ <;> obtain ⟨k, rfl⟩ : ∃ m, k = m + 2 := ⟨k - 2, by omega⟩
      · simp only [spec_EqualType.f, spec_EqualType.j0, if_neg a0, if_true]
      · simp only [impl_EqualType.f, impl_EqualType.j0, if_neg a0, if_true]

open Classical in
theorem uni_f (y : S30) (sm : SmT y) (hn : ndT y ≤ 1048577) : ∃ r, Ev (fun k => spec_IsUniform.f k y.f0 y.f1 y.f2) r ∧ Ev (fun k => impl_IsUniform.f k y.f0 y.f1 y.f2) r := by
  obtain ⟨⟨K1, e1⟩, ⟨K2, e2⟩⟩ := isT_f y sm hn
  cases sm with
  | mk _ h0 h1 h3 h4 =>
    by_cases a : isT y = true ∧ (y.f0 != 3) = false
    · obtain ⟨a1, a2⟩ := a
      have hf : isT y = true → fmT y = true := fun h => by unfold isT at h; simp only [Bool.and_eq_true] at h; exact h.2.2
      have a3 : y.f0 = 3 := by simpa using a2
      have hl := hf a1
      rw [fmT_eq, Bool.and_eq_true] at hl
      have hlab := hl.2
      unfold lfT at hlab
      have hpos : 0 < y.f2.length := by
        simp [a3, lab] at hlab
        omega
      have loop : ∀ d i, i + d = y.f2.length → ∃ r, Ev (fun k => spec_IsUniform.l0 k i y.f0 y.f1 y.f2) r ∧ Ev (fun k => impl_IsUniform.l0 k y.f2 (y.f2.length : Int) i y.f0 y.f1 y.f2) r := by
        intro d
        induction d with
        | zero =>
          intro i hi
          refine ⟨true, ⟨1, fun k hk => ?_⟩, ⟨1, fun k hk => ?_⟩⟩ <;> obtain ⟨k, rfl⟩ := succ_of (show 0 < k by omega)
          · simp (disch := omega) only [spec_IsUniform.l0, if_neg]
          · simp (disch := omega) only [impl_IsUniform.l0, if_neg]
        | succ d ihd =>
          intro i hi
          have hlt : i < y.f2.length := by omega
          obtain ⟨r, ⟨K5, e5⟩, ⟨K6, e6⟩⟩ := ihd (i + 1) (by omega)
          obtain ⟨⟨K3, e3⟩, -⟩ := eqT_f y.f2[0] (h4 _ (List.getElem_mem hpos)) y.f2[i]
          obtain ⟨-, ⟨K4, e4⟩⟩ := eqT_f y.f2[i] (h4 _ (List.getElem_mem hlt)) y.f2[0]
          have z0 := rdIT y.f2 0 hpos
          simp only [Int.natCast_zero] at z0
          have ec : decide (y.f2[i] = y.f2[0]) = decide (y.f2[0] = y.f2[i]) := decide_eq_decide.mpr eq_comm
          by_cases h : y.f2[0] = y.f2[i]
          · refine ⟨r, ⟨K3 + K5 + 1, fun k hk => ?_⟩, ⟨K4 + K6 + 1, fun k hk => ?_⟩⟩ <;> obtain ⟨k, rfl⟩ := succ_of (show 0 < k by omega)
            · have e3' := e3 k (by omega)
              simp (disch := omega) only [spec_IsUniform.l0, z0, rdIT, if_pos, e3', Option.bind_some, w64, cast1, e5]
              simp [h]
            · have e4' := e4 k (by omega)
              simp (disch := omega) only [impl_IsUniform.l0, z0, rdIT, if_pos, e4', Option.bind_some, w64, cast1, e6]
              simp [h]
          · refine ⟨false, ⟨K3 + K5 + 1, fun k hk => ?_⟩, ⟨K4 + K6 + 1, fun k hk => ?_⟩⟩ <;> obtain ⟨k, rfl⟩ := succ_of (show 0 < k by omega)
            · have e3' := e3 k (by omega)
              simp (disch := omega) only [spec_IsUniform.l0, z0, rdIT, if_pos, e3', Option.bind_some]
              simp [h]
            · have e4' := e4 k (by omega)
              simp (disch := omega) only [impl_IsUniform.l0, z0, rdIT, if_pos, e4', Option.bind_some, ec]
              simp [h]
      obtain ⟨r, ⟨K3, e3⟩, ⟨K4, e4⟩⟩ := loop (y.f2.length - 1) 1 (by omega)
      obtain ⟨-, ⟨K5, e5⟩⟩ := eqT_f y.f2[0] (h4 _ (List.getElem_mem hpos)) y.f2[0]
      have z0 := rdIT y.f2 0 hpos
      simp only [Int.natCast_zero, Int.natCast_one] at z0 e3 e4
      have w1 : wrap64 (0 + 1) = 1 := by unfold wrap64; omega
      have hp : (0 : Int) < (y.f2.length : Int) := by omega
      refine ⟨r, ⟨K1 + K3 + 2, fun k hk => ?_⟩, ⟨K2 + K4 + K5 + 3, fun k hk => ?_⟩⟩
      · obtain ⟨k, rfl⟩ := succ_of (show 0 < k by omega)
        have e1' := e1 (k + 1) (by omega)
        have e3' := e3 k (by omega)
        simp only [spec_IsUniform.f, spec_IsUniform.j0, e1', Option.bind_some, a1, a2, if_true, Bool.false_eq_true, if_false]
        exact e3'
      · obtain ⟨k, rfl⟩ : ∃ m, k = m + 2 := ⟨k - 2, by omega⟩
        have e2' := e2 (k + 2) (by omega)
        have e4' := e4 k (by omega)
        have e5' := e5 k (by omega)
        simp only [impl_IsUniform.f, impl_IsUniform.j0, impl_IsUniform.l0, e2', Option.bind_some, a1, a2, if_true, Bool.false_eq_true, if_false, if_pos hp, Int.le_refl, z0, e5', decide_true, w1]
        exact e4'
    · refine ⟨false, ⟨K1 + 1, fun k hk => ?_⟩, ⟨K2 + 1, fun k hk => ?_⟩⟩ <;> obtain ⟨k, rfl⟩ := succ_of (show 0 < k by omega)
      · have e1' := e1 (k + 1) (by omega)
        simp only [spec_IsUniform.f, spec_IsUniform.j0, e1', Option.bind_some]
        cases h1 : isT y <;> cases h2 : (y.f0 != 3) <;> simp_all
      · have e2' := e2 (k + 1) (by omega)
        simp only [impl_IsUniform.f, impl_IsUniform.j0, e2', Option.bind_some]
        cases h1 : isT y <;> cases h2 : (y.f0 != 3) <;> simp_all

theorem FnExactIsUniform (x0 : S25) (o0 : Ok25 x0) : ∃ k, laws_FnExactIsUniform.f k x0.f0 x0.f1 x0.f2 = some true := by
  obtain ⟨r, ⟨K1, h1⟩, h⟩ := szT_to x0 o0 1048576 (by omega) (by omega)
  rcases h with h | ⟨h, y, sm, ⟨K2, h2⟩, hn⟩
  · have e1 := h1 K1 (by omega)
    exact ⟨K1, by simp only [laws_FnExactIsUniform.f, e1, Option.bind_some, if_pos h]⟩
  · obtain ⟨n, ⟨K3, h3⟩, ⟨K4, h4⟩⟩ := uni_f y sm (by omega)
    obtain ⟨K5, h5⟩ := eqT_self y sm
    have e1 := h1 (K1 + K2 + K3 + K4 + K5) (by omega)
    have e2 := h2 (K1 + K2 + K3 + K4 + K5) (by omega)
    have e3 := h3 (K1 + K2 + K3 + K4 + K5) (by omega)
    have e4 := h4 (K1 + K2 + K3 + K4 + K5) (by omega)
    have e5 := h5 (K1 + K2 + K3 + K4 + K5) (by omega)
    exact ⟨K1 + K2 + K3 + K4 + K5, by simp (disch := omega) only [laws_FnExactIsUniform.f, e1, e2, e3, e4, e5, Option.bind_some, if_neg, if_true, bne_self_eq_false, Bool.false_eq_true, if_false]⟩

end Go.Proofs.Ytingaflikkeefaa.Pure
