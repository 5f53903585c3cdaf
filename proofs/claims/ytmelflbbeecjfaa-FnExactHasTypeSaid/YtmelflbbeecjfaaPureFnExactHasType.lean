/- The program's HasType answers as the reference's and leaves its arguments alone, for every value and type: no condition. -/
import Derived.Test.YtmelflbbeecjfaaXBx18
import Derived.Test.YtmelflbbeecjfaaXBxk
namespace Go.Proofs.Ytmelflbbeecjfaa.Pure
open Go.RowKit Go.Proofs.Ytmelflbbeecjfaa.XB Go.Proofs.YtmelflbbeecjfaaW.PrintWords Go.Proofs.YtmelflbbeecjfaaW.PrintLast

set_option linter.unusedSimpArgs false
set_option linter.unusedVariables false

theorem w64 {n : Int} (h : -9223372036854775808 ≤ n) (h' : n ≤ 9223372036854775807) : wrap64 n = n := by unfold wrap64; omega
theorem cast1 (i : Nat) : (i : Int) + 1 = ((i + 1 : Nat) : Int) := by omega
theorem succ_of {d k : Nat} (h : d < k) : ∃ m, k = m + 1 := ⟨k - 1, by omega⟩

theorem rd_at (l : List ByteArray) (i : Nat) (h : i < l.length) : rdOf ByteArray.empty l (i : Int) = l[i] := by
  simp [rdOf, h]

/-- How many bytes the strings have together. -/
def tot (l : List ByteArray) : Nat := (l.map ByteArray.size).sum

theorem tot_cons (p : ByteArray) (l : List ByteArray) : tot (p :: l) = p.size + tot l := by simp only [tot, List.map_cons, List.sum_cons]

theorem tot_drop (l : List ByteArray) (i : Nat) (h : i < l.length) : tot (l.drop i) = l[i].size + tot (l.drop (i + 1)) := by
  rw [List.drop_eq_getElem_cons h, tot_cons]

theorem sz_loop (l : List ByteArray) (hl : l.length ≤ maxLen) (hs : ∀ s ∈ l, s.size ≤ maxLen) (d : Nat) : ∀ (i : Nat) (left : Int), i + d = l.length → 0 ≤ left → left ≤ 1048576 →
    ∃ r, (∀ k, d < k → laws_szStringS.l0 k l left i = some r) ∧ (r < 0 ∨ 0 ≤ r ∧ (tot (l.drop i) : Int) + r = left) := by
  simp only [maxLen] at hl hs
  induction d with
  | zero =>
    intro i left hi h0 h1
    refine ⟨left, fun k hk => ?_, .inr ⟨h0, ?_⟩⟩
    · obtain ⟨k, rfl⟩ := succ_of hk
      simp (disch := omega) only [laws_szStringS.l0, if_neg]
    · rw [List.drop_of_length_le (by omega)]; simp [tot]
  | succ d ih =>
    intro i left hi h0 h1
    have hlt : i < l.length := by omega
    have hz := hs l[i] (List.getElem_mem hlt)
    by_cases hneg : left - (l[i].size : Int) < 0
    · refine ⟨-1, fun k hk => ?_, .inl (by omega)⟩
      obtain ⟨k, rfl⟩ := succ_of hk
      simp (disch := omega) only [laws_szStringS.l0, rd_at, w64, if_pos]
    · obtain ⟨r, h2, h3⟩ := ih (i + 1) (left - (l[i].size : Int)) (by omega) (by omega) (by omega)
      refine ⟨r, fun k hk => ?_, ?_⟩
      · obtain ⟨k, rfl⟩ := succ_of hk
        simp (disch := omega) only [laws_szStringS.l0, rd_at, w64, if_pos, if_neg, cast1]
        exact h2 k (by omega)
      · rcases h3 with h3 | ⟨h3, h4⟩
        · exact .inl h3
        · refine .inr ⟨h3, ?_⟩
          rw [tot_drop l i hlt]; omega

theorem sz_g (l : List ByteArray) (hl : l.length ≤ maxLen) (hs : ∀ s ∈ l, s.size ≤ maxLen) (left : Int) (g0 : 0 ≤ left) (g1 : left ≤ 1048576) :
    ∃ r, (∀ k, l.length < k → laws_szStringS.f k l left = some r) ∧ (r < 0 ∨ 0 ≤ r ∧ (l.length : Int) + tot l + r = left) := by
  have hl' := hl
  simp only [maxLen] at hl'
  by_cases hneg : left - (l.length : Int) < 0
  · refine ⟨-1, fun k _ => ?_, .inl (by omega)⟩
    simp (disch := omega) only [laws_szStringS.f, w64, if_pos]
  · obtain ⟨r, h2, h3⟩ := sz_loop l hl hs l.length 0 (left - (l.length : Int)) (by omega) (by omega) (by omega)
    refine ⟨r, fun k hk => ?_, ?_⟩
    · simp (disch := omega) only [laws_szStringS.f, w64, if_neg]; exact h2 k hk
    · rcases h3 with h3 | ⟨h3, h4⟩
      · exact .inl h3
      · refine .inr ⟨h3, ?_⟩
        rw [List.drop_zero] at h4; omega

theorem sz_f (l : List ByteArray) (hl : l.length ≤ maxLen) (hs : ∀ s ∈ l, s.size ≤ maxLen) :
    ∃ r, (∀ k, l.length < k → laws_szStringS.f k l 1048576 = some r) ∧ (r < 0 ∨ 0 ≤ r ∧ l.length + tot l ≤ 1048576) := by
  obtain ⟨r, h1, h2⟩ := sz_g l hl hs 1048576 (by omega) (by omega)
  refine ⟨r, h1, ?_⟩
  rcases h2 with h2 | ⟨h2, h3⟩
  · exact .inl h2
  · exact .inr ⟨h2, by omega⟩

theorem tot_mem (r : List ByteArray) (p : ByteArray) (h : p ∈ r) : p.size ≤ tot r := by
  induction r with
  | nil => simp at h
  | cons q r ih =>
    have e := tot_cons q r
    rcases List.mem_cons.1 h with rfl | h
    · omega
    · have := ih h; omega

theorem to_loop (l : List ByteArray) (hl : l.length ≤ 1048576) (d : Nat) : ∀ (i k : Nat), i + d = l.length → d < k →
    laws_toStringS.l0 k l (l.take i ++ List.replicate d (⟨#[]⟩ : ByteArray)) i = some l := by
  induction d with
  | zero =>
    intro i k hi hk
    obtain ⟨k, rfl⟩ := succ_of hk
    simp (disch := omega) only [laws_toStringS.l0, if_neg]
    rw [List.take_of_length_le (by omega)]; simp
  | succ d ih =>
    intro i k hi hk
    obtain ⟨k, rfl⟩ := succ_of hk
    have hlt : i < l.length := by omega
    have hq : (i : Int) < ((l.take i ++ List.replicate (d + 1) (⟨#[]⟩ : ByteArray)).length : Int) := by simp; omega
    have e : (l.take i ++ List.replicate (d + 1) (⟨#[]⟩ : ByteArray)).set i l[i] = l.take (i + 1) ++ List.replicate d (⟨#[]⟩ : ByteArray) := by
      have ht : (l.take i).length = i := by rw [List.length_take]; omega
      rw [List.set_append_right _ _ (by omega), ht, Nat.sub_self, List.replicate_succ, List.set_cons_zero, List.take_succ_eq_append_getElem hlt, List.append_assoc]; rfl
    simp (disch := omega) only [laws_toStringS.l0, rd_at, w64, if_pos, cast1, Int.toNat_natCast, if_pos hq, e]
    exact ih (i + 1) k (by omega) (by omega)

theorem to_f (l : List ByteArray) (hl : l.length ≤ 1048576) (k : Nat) (hk : l.length < k) : laws_toStringS.f k l = some l := by
  simp (disch := omega) only [laws_toStringS.f, if_pos]
  have := to_loop l hl l.length 0 k (by omega) hk
  simpa using this

theorem eq_loop (l : List ByteArray) (hl : l.length ≤ 1099511627776) (d : Nat) : ∀ (i k : Nat), i + d = l.length → d < k → laws_eqStringS.l0 k l l i = some true := by
  induction d with
  | zero =>
    intro i k hi hk
    obtain ⟨k, rfl⟩ := succ_of hk
    simp (disch := omega) only [laws_eqStringS.l0, if_neg]
  | succ d ih =>
    intro i k hi hk
    obtain ⟨k, rfl⟩ := succ_of hk
    simp (disch := omega) only [laws_eqStringS.l0, if_pos, w64, cast1, if_true]
    exact ih (i + 1) k (by omega) (by omega)

theorem eq_f (l : List ByteArray) (hl : l.length ≤ 1099511627776) (k : Nat) (hk : l.length < k) : laws_eqStringS.f k l l = some true := by
  simp only [laws_eqStringS.f, if_true]
  exact eq_loop l hl l.length 0 k (by omega) hk

theorem rdIV (l : List S30) (i : Nat) (h : i < l.length) : rd_T30 l (i : Int) = l[i] := by simp [rd_T30, h]
theorem rdLV (l : List S25) (i : Nat) (h : i < l.length) : rd_T25 l (i : Int) = l[i] := by simp [rd_T25, h]

mutual
/-- How many values it holds, itself among them. -/
def ndV : S30 → Nat
  | ⟨_, _, _, _, l⟩ => ndsV l + 1
def ndsV : List S30 → Nat
  | [] => 0
  | x :: xs => ndV x + ndsV xs
end

theorem ndV_eq (y : S30) : ndV y = ndsV y.f4 + 1 := by cases y; simp only [ndV]
theorem ndsV_drop (l : List S30) (i : Nat) (h : i < l.length) : ndsV (l.drop i) = ndV l[i] + ndsV (l.drop (i + 1)) := by
  rw [List.drop_eq_getElem_cons h, ndsV]
theorem ndsV_len (l : List S30) : l.length ≤ ndsV l := by
  induction l with
  | nil => simp [ndsV]
  | cons x xs ih => have := ndV_eq x; simp only [ndsV, List.length_cons]; omega
theorem ndsV_mem (l : List S30) (z : S30) (h : z ∈ l) : ndV z ≤ ndsV l := by
  induction l with
  | nil => simp at h
  | cons x xs ih =>
    simp only [ndsV]
    rcases List.mem_cons.1 h with rfl | h
    · omega
    · have := ih h; omega

/-- Within bounds, all the way down. -/
inductive SmV : S30 → Prop
  | mk (y : S30) (h0 : -9223372036854775808 ≤ y.f0 ∧ y.f0 ≤ 9223372036854775807) (h1 : -9223372036854775808 ≤ y.f1 ∧ y.f1 ≤ 9223372036854775807) (h2 : y.f2.size ≤ 1048576) (h3 : y.f3.length ≤ 1048576 ∧ ∀ s ∈ y.f3, s.size ≤ 1048576) (h4 : y.f4.length ≤ 1048576) (h5 : ∀ z ∈ y.f4, SmV z) : SmV y

theorem wf64V {n : Int} (h : (Lit.int .i64 n).wf = true) : -9223372036854775808 ≤ n ∧ n ≤ 9223372036854775807 := by
  simpa [Lit.wf, IntKind.min, IntKind.max, IntKind.signed, IntKind.bits] using h

theorem szV_to (x : S25) (ok : Ok25 x) : ∀ left : Int, 0 ≤ left → left ≤ 1048576 →
    ∃ r, Ev (fun k => laws_szValue.f k x.f0 x.f1 x.f2 x.f3 x.f4 left) r ∧ (r < 0 ∨ 0 ≤ r ∧ ∃ y, SmV y ∧ Ev (fun k => laws_toValue.f k x.f0 x.f1 x.f2 x.f3 x.f4) (y.f0, y.f1, y.f2, y.f3, y.f4) ∧ (ndV y : Int) + r ≤ left + 1) := by
  induction ok with
  | mk x h0 h1 h2 h3 h4 h5 h6 ih =>
    intro left hl0 hl1
    have bl := h5
    simp only [maxLen] at bl
    have bn := h2
    simp only [maxLen] at bn
    by_cases hneg : left - (x.f2.size : Int) < 0
    · refine ⟨-1, ⟨1, fun k hk => ?_⟩, .inl (by omega)⟩
      obtain ⟨k, rfl⟩ := succ_of (show 0 < k by omega)
      simp (disch := omega) only [laws_szValue.f, w64, if_pos]
    have bneg : 0 ≤ left - (x.f2.size : Int) := by omega
    obtain ⟨rs, e0, q0⟩ := sz_g x.f3 h3 h4 (left - (x.f2.size : Int)) (by omega) (by omega)
    rcases q0 with q0 | ⟨q0, q1⟩
    · refine ⟨-1, ⟨x.f3.length + 2, fun k hk => ?_⟩, .inl (by omega)⟩
      obtain ⟨k, rfl⟩ := succ_of (show 0 < k by omega)
      have e0' := e0 k (by omega)
      simp (disch := omega) only [laws_szValue.f, w64, if_neg, e0', Option.bind_some, if_pos]
    by_cases hneg2 : rs - (x.f4.length : Int) < 0
    · refine ⟨-1, ⟨x.f3.length + 3, fun k hk => ?_⟩, .inl (by omega)⟩
      obtain ⟨k, rfl⟩ : ∃ m, k = m + 2 := ⟨k - 2, by omega⟩
      have e0' := e0 (k + 1) (by omega)
      simp (disch := omega) only [laws_szValue.f, laws_szValueS.f, w64, e0', if_pos, if_neg, Option.bind_some]
    have loop : ∀ d i (left : Int), i + d = x.f4.length → 0 ≤ left → left ≤ 1048576 → ∃ r, Ev (fun k => laws_szValueS.l0 k x.f4 left i) r ∧ (r < 0 ∨ 0 ≤ r ∧ ∃ ys : List S30, ys.length = d ∧ (∀ z ∈ ys, SmV z) ∧ (ndsV ys : Int) + r ≤ left + d ∧
        ∀ p : List S30, p.length = i → Ev (fun k => laws_toValueS.l0 k x.f4 (p ++ List.replicate d z30) i) (p ++ ys)) := by
      intro d
      induction d with
      | zero =>
        intro i left hi g0 g1
        refine ⟨left, ⟨1, fun k hk => ?_⟩, .inr ⟨g0, [], rfl, by simp, by simp [ndsV], fun p hp => ⟨1, fun k hk => ?_⟩⟩⟩ <;> obtain ⟨k, rfl⟩ := succ_of (show 0 < k by omega)
        · simp (disch := omega) only [laws_szValueS.l0, if_neg]
        · simp (disch := omega) only [laws_toValueS.l0, if_neg]; simp
      | succ d ihd =>
        intro i left hi g0 g1
        have hlt : i < x.f4.length := by omega
        obtain ⟨r1, ⟨K1, e1⟩, hr1⟩ := ih x.f4[i] (List.getElem_mem hlt) left g0 g1
        rcases hr1 with hr1 | ⟨hr1, y, sm, ⟨K2, e2⟩, hn⟩
        · refine ⟨-1, ⟨K1 + 1, fun k hk => ?_⟩, .inl (by omega)⟩
          obtain ⟨k, rfl⟩ := succ_of (show 0 < k by omega)
          simp (disch := omega) only [laws_szValueS.l0, rdLV, if_pos, e1, Option.bind_some]
        · have hy := ndV_eq y
          obtain ⟨r, ⟨K3, e3⟩, hr⟩ := ihd (i + 1) r1 (by omega) hr1 (by omega)
          refine ⟨r, ⟨K1 + K3 + 1, fun k hk => ?_⟩, ?_⟩
          · obtain ⟨k, rfl⟩ := succ_of (show 0 < k by omega)
            simp (disch := omega) only [laws_szValueS.l0, rdLV, if_pos, if_neg, e1, Option.bind_some, w64, cast1, e3]
          · rcases hr with hr | ⟨hr, ys, hlen, hsm, hnd, hto⟩
            · exact .inl hr
            · refine .inr ⟨hr, y :: ys, by simp [hlen], ?_, ?_, fun p hp => ?_⟩
              · intro z hz
                rcases List.mem_cons.1 hz with rfl | hz
                · exact sm
                · exact hsm z hz
              · simp only [ndsV]; omega
              · obtain ⟨K4, e4⟩ := hto (p ++ [y]) (by simp [hp])
                refine ⟨K2 + K4 + 1, fun k hk => ?_⟩
                obtain ⟨k, rfl⟩ := succ_of (show 0 < k by omega)
                have hq : (i : Int) < ((p ++ List.replicate (d + 1) z30).length : Int) := by simp; omega
                have es : (p ++ List.replicate (d + 1) z30).set i y = (p ++ [y]) ++ List.replicate d z30 := by
                  rw [List.set_append_right _ _ (by omega), hp, Nat.sub_self, List.replicate_succ, List.set_cons_zero, List.append_assoc]; rfl
                have ey : (⟨y.f0, y.f1, y.f2, y.f3, y.f4⟩ : S30) = y := by cases y; rfl
                simp (disch := omega) only [laws_toValueS.l0, rdLV, if_pos, e2, Option.bind_some, w64, cast1, Int.toNat_natCast, if_pos hq, ey, es, e4]
                simp
    obtain ⟨r, ⟨K1, e1⟩, hr⟩ := loop x.f4.length 0 (rs - (x.f4.length : Int)) (by omega) (by omega) (by omega)
    rcases hr with hr | ⟨hr, ys, hlen, hsm, hnd, hto⟩
    · refine ⟨-1, ⟨K1 + x.f3.length + 3, fun k hk => ?_⟩, .inl (by omega)⟩
      obtain ⟨k, rfl⟩ : ∃ m, k = m + 2 := ⟨k - 2, by omega⟩
      have e1' := e1 k (by omega)
      have e0' := e0 (k + 1) (by omega)
      simp only [Int.natCast_zero] at e1'
      simp (disch := omega) only [laws_szValue.f, laws_szValueS.f, w64, e0', if_neg, if_pos, e1', Option.bind_some]
    · refine ⟨r, ⟨K1 + x.f3.length + 3, fun k hk => ?_⟩, .inr ⟨hr, ⟨x.f0, x.f1, x.f2, x.f3, ys⟩, ?_, ?_, ?_⟩⟩
      · obtain ⟨k, rfl⟩ : ∃ m, k = m + 2 := ⟨k - 2, by omega⟩
        have e1' := e1 k (by omega)
        have e0' := e0 (k + 1) (by omega)
        simp only [Int.natCast_zero] at e1'
        simp (disch := omega) only [laws_szValue.f, laws_szValueS.f, w64, e0', if_neg, e1', Option.bind_some]
      · exact .mk _ (wf64V h0) (wf64V h1) (by show x.f2.size ≤ _; omega) ⟨by show x.f3.length ≤ _; omega, fun s hs => by have := tot_mem x.f3 s hs; omega⟩ (by show ys.length ≤ _; omega) hsm
      · obtain ⟨K2, e2⟩ := hto [] rfl
        refine ⟨K2 + x.f3.length + 3, fun k hk => ?_⟩
        obtain ⟨k, rfl⟩ : ∃ m, k = m + 2 := ⟨k - 2, by omega⟩
        have e2' := e2 k (by omega)
        have t0 := to_f x.f3 (by omega) (k + 1) (by omega)
        simp only [Int.natCast_zero, List.nil_append] at e2'
        simp (disch := omega) only [laws_toValue.f, laws_toValueS.f, t0, if_pos, Int.toNat_natCast, e2', Option.bind_some]
      · simp only [ndV]; omega

theorem eqV_self (y : S30) (sm : SmV y) : Ev (fun k => laws_eqValue.f k y.f0 y.f1 y.f2 y.f3 y.f4 y.f0 y.f1 y.f2 y.f3 y.f4) true := by
  induction sm with
  | mk y h0 h1 h2 h3 h3_ h4_ ih =>
    have loop : ∀ d i, i + d = y.f4.length → Ev (fun k => laws_eqValueS.l0 k y.f4 y.f4 i) true := by
      intro d
      induction d with
      | zero =>
        intro i hi
        refine ⟨1, fun k hk => ?_⟩
        obtain ⟨k, rfl⟩ := succ_of (show 0 < k by omega)
        simp (disch := omega) only [laws_eqValueS.l0, if_neg]
      | succ d ihd =>
        intro i hi
        have hlt : i < y.f4.length := by omega
        obtain ⟨K1, e1⟩ := ih y.f4[i] (List.getElem_mem hlt)
        obtain ⟨K2, e2⟩ := ihd (i + 1) (by omega)
        refine ⟨K1 + K2 + 1, fun k hk => ?_⟩
        obtain ⟨k, rfl⟩ := succ_of (show 0 < k by omega)
        simp (disch := omega) only [laws_eqValueS.l0, rdIV, if_pos, e1, Option.bind_some, w64, cast1, e2, if_true]
    obtain ⟨K, e⟩ := loop y.f4.length 0 (by omega)
    refine ⟨K + y.f3.length + 3, fun k hk => ?_⟩
    obtain ⟨k, rfl⟩ : ∃ m, k = m + 2 := ⟨k - 2, by omega⟩
    have e' := e k (by omega)
    have e0 := eq_f y.f3 (by have := h3.1; omega) (k + 1) (by omega)
    simp only [Int.natCast_zero] at e'
    simp only [laws_eqValue.f, laws_eqValueS.f, e0, if_true, e', Option.bind_some]

theorem sizeVI_f (y : S30) (sm : SmV y) (hn : ndV y ≤ 1048577) : Ev (fun k => impl_SizeOfValue.f k y.f0 y.f1 y.f2 y.f3 y.f4) (ndV y) := by
  induction sm with
  | mk y g0 g1 g2 g3 h3 h4 ih =>
    have he := ndV_eq y
    have loop : ∀ d i (a : Int), i + d = y.f4.length → 0 ≤ a → a + ndsV (y.f4.drop i) ≤ 1048577 → Ev (fun k => impl_SizeOfValue.l0 k a y.f4 y.f4.length i) (a + ndsV (y.f4.drop i)) := by
      intro d
      induction d with
      | zero =>
        intro i a hi ha hb
        have e0 : (ndsV (y.f4.drop i) : Int) = 0 := by rw [List.drop_of_length_le (by omega)]; simp [ndsV]
        rw [e0, Int.add_zero]
        refine ⟨1, fun k hk => ?_⟩
        obtain ⟨k, rfl⟩ := succ_of (show 0 < k by omega)
        simp (disch := omega) only [impl_SizeOfValue.l0, if_neg]
      | succ d ihd =>
        intro i a hi ha hb
        have hlt : i < y.f4.length := by omega
        rw [ndsV_drop y.f4 i hlt] at hb ⊢
        have hm := ndsV_mem y.f4 _ (List.getElem_mem hlt)
        obtain ⟨K2, e2⟩ := ih y.f4[i] (List.getElem_mem hlt) (by omega)
        obtain ⟨K4, e4⟩ := ihd (i + 1) (a + ndV y.f4[i]) (by omega) (by omega) (by omega)
        have ea : a + ((ndV y.f4[i] + ndsV (y.f4.drop (i + 1)) : Nat) : Int) = a + ndV y.f4[i] + ndsV (y.f4.drop (i + 1)) := by omega
        rw [ea]
        refine ⟨K2 + K4 + 1, fun k hk => ?_⟩
        obtain ⟨k, rfl⟩ := succ_of (show 0 < k by omega)
        simp (disch := omega) only [impl_SizeOfValue.l0, rdIV, if_pos, e2, Option.bind_some, w64, cast1, e4]
    obtain ⟨K4, e4⟩ := loop y.f4.length 0 1 (by omega) (by omega) (by simp only [List.drop_zero]; omega)
    have ea : (1 : Int) + ndsV (y.f4.drop 0) = ndV y := by simp only [List.drop_zero]; omega
    rw [ea] at e4
    refine ⟨K4 + 1, fun k hk => ?_⟩
    obtain ⟨k, rfl⟩ := succ_of (show 0 < k by omega)
    simp only [impl_SizeOfValue.f]; exact e4 k (by omega)

theorem leftV_f (y : S30) (sm : SmV y) (hn : ndV y ≤ 1048577) : ∀ left : Int, 0 ≤ left → left ≤ 1048576 → ∃ r, Ev (fun k => spec_l5Left.f k y.f0 y.f1 y.f2 y.f3 y.f4 left) r ∧ r ≤ 1048576 ∧ ((ndV y : Int) ≤ left → r = left - ndV y) ∧ (left < (ndV y : Int) → r < 0) := by
  induction sm with
  | mk y g0 g1 g2 g3 h3 h4 ih =>
    intro left g0 g1
    have he := ndV_eq y
    have loop : ∀ d i (a : Int), i + d = y.f4.length → -1 ≤ a → a ≤ 1048576 → ∃ r, Ev (fun k => spec_l5Left.l0 k a i y.f0 y.f1 y.f2 y.f3 y.f4) r ∧ r ≤ 1048576 ∧ ((ndsV (y.f4.drop i) : Int) ≤ a → r = a - ndsV (y.f4.drop i)) ∧ (a < (ndsV (y.f4.drop i) : Int) → r < 0) := by
      intro d
      induction d with
      | zero =>
        intro i a hi ha hb
        have e0 : (ndsV (y.f4.drop i) : Int) = 0 := by rw [List.drop_of_length_le (by omega)]; simp [ndsV]
        rw [e0]
        refine ⟨a, ⟨1, fun k hk => ?_⟩, hb, fun _ => by omega, fun h => h⟩
        obtain ⟨k, rfl⟩ := succ_of (show 0 < k by omega)
        simp (disch := omega) only [spec_l5Left.l0, if_neg]
      | succ d ihd =>
        intro i a hi ha hb
        have hlt : i < y.f4.length := by omega
        rw [ndsV_drop y.f4 i hlt]
        have hm := ndsV_mem y.f4 _ (List.getElem_mem hlt)
        have hp := ndV_eq y.f4[i]
        by_cases hneg : a < 0
        · refine ⟨a, ⟨1, fun k hk => ?_⟩, hb, fun _ => by omega, fun _ => hneg⟩
          obtain ⟨k, rfl⟩ := succ_of (show 0 < k by omega)
          simp (disch := omega) only [spec_l5Left.l0, if_pos, if_neg]
        · obtain ⟨r1, ⟨K1, e1⟩, hb1, q1, q2⟩ := ih y.f4[i] (List.getElem_mem hlt) (by omega) a (by omega) hb
          by_cases hr : (ndV y.f4[i] : Int) ≤ a
          · have hr1 := q1 hr
            obtain ⟨r, ⟨K3, e3⟩, hb3, q3, q4⟩ := ihd (i + 1) r1 (by omega) (by omega) hb1
            refine ⟨r, ⟨K1 + K3 + 1, fun k hk => ?_⟩, hb3, fun h => by rw [q3 (by omega)]; omega, fun h => q4 (by omega)⟩
            obtain ⟨k, rfl⟩ := succ_of (show 0 < k by omega)
            simp (disch := omega) only [spec_l5Left.l0, rdIV, if_pos, e1, Option.bind_some, w64, cast1, e3]
          · have hr1 := q2 (by omega)
            refine ⟨r1, ⟨K1 + 2, fun k hk => ?_⟩, hb1, fun h => by omega, fun _ => hr1⟩
            obtain ⟨k, rfl⟩ : ∃ m, k = m + 2 := ⟨k - 2, by omega⟩
            have e1' := e1 (k + 1) (by omega)
            simp (disch := omega) only [spec_l5Left.l0, rdIV, if_pos, e1', Option.bind_some, w64, cast1, if_neg, ite_self]
    obtain ⟨r, ⟨K3, e3⟩, hb3, q3, q4⟩ := loop y.f4.length 0 (left - 1) (by omega) (by omega) (by omega)
    rw [List.drop_zero] at q3 q4
    refine ⟨r, ⟨K3 + 1, fun k hk => ?_⟩, hb3, fun h => by rw [q3 (by omega)]; omega, fun h => q4 (by omega)⟩
    obtain ⟨k, rfl⟩ := succ_of (show 0 < k by omega)
    have e3' := e3 k (by omega)
    simp only [Int.natCast_zero] at e3'
    simp (disch := omega) only [spec_l5Left.f, w64, e3']


/-- May this byte stand at this place of a name? -/
def okb (s : ByteArray) (i : Int) : Bool := if 97 ≤ bt s i ∧ bt s i ≤ 122 then true else if i = 0 then false else decide (48 ≤ bt s i ∧ bt s i ≤ 57)

/-- So many bytes from a place on may stand in a name. -/
def okn (s : ByteArray) : Nat → Int → Bool
  | 0, _ => true
  | d + 1, i => okb s i && okn s d (i + 1)

theorem byte_ok (s : ByteArray) (i : Int) : impl_nameByte.f (bt s i) (i == 0) = some (okb s i) := by
  unfold impl_nameByte.f okb
  by_cases h0 : i = 0
  · subst h0
    by_cases h1 : bt s 0 ≥ 97 <;> by_cases h2 : bt s 0 ≤ 122 <;> simp [h1, h2]
  · by_cases h1 : bt s i ≥ 97 <;> by_cases h2 : bt s i ≤ 122 <;> by_cases h3 : bt s i ≥ 48 <;> by_cases h4 : bt s i ≤ 57 <;> first | (exfalso; omega) | simp [h0, h1, h2, h3, h4]

theorem okb_ite (s : ByteArray) (i : Int) : (if bt s i ≥ 97 then (if bt s i ≤ 122 then true else (if i = 0 then false else (if bt s i < 48 then false else (if bt s i > 57 then false else true)))) else (if i = 0 then false else (if bt s i < 48 then false else (if bt s i > 57 then false else true)))) = okb s i := by
  unfold okb
  by_cases h2 : bt s i ≥ 97 <;> by_cases h3 : bt s i ≤ 122 <;> by_cases h5 : bt s i < 48 <;> by_cases h6 : bt s i > 57 <;> by_cases h4 : i = 0 <;> first | (exfalso; omega) | (have e1 : 48 ≤ bt s i := by omega) | skip
  all_goals first | (have e2 : ¬ 48 ≤ bt s i := by omega) | skip
  all_goals first | (have e3 : bt s i ≤ 57 := by omega) | (have e3 : ¬ bt s i ≤ 57 := by omega)
  all_goals simp [*]

theorem name_spec_loop (s : ByteArray) (hn : s.size ≤ 140737488351232) (d : Nat) : ∀ (k : Nat) (i : Int), 0 ≤ i → i + d = s.size → d < k →
    spec_IsName.l0 k s i = some (okn s d i && (decide (1 ≤ s.size) && decide (s.size ≤ 4))) := by
  induction d with
  | zero =>
    intro k i h0 h1 hk
    obtain ⟨k, rfl⟩ := succ_of hk
    simp only [spec_IsName.l0, spec_l1In.f]
    rw [if_neg (by omega)]
    have e : decide ((s.size : Int) ≤ 4) = decide (s.size ≤ 4) := decide_eq_decide.mpr (by omega)
    by_cases h : (s.size : Int) ≥ 1
    · have h' : 1 ≤ s.size := by omega
      rw [if_pos h, e]; simp [h', okn]
    · have h' : s.size = 0 := by omega
      rw [if_neg h]; simp [h', okn]
  | succ d ih =>
    intro k i h0 h1 hk
    obtain ⟨k, rfl⟩ := succ_of hk
    have hi := ih k (i + 1) (by omega) (by omega) (by omega)
    simp (disch := omega) only [spec_IsName.l0, if_pos, w64]
    rw [hi]
    simp only [okn]
    rw [← okb_ite]
    repeat' split
    all_goals first | (exfalso; omega) | simp_all

theorem name_impl_loop (s : ByteArray) (hn : s.size ≤ 140737488351232) (d : Nat) : ∀ (k : Nat) (i : Int), 0 ≤ i → i + d = s.size → d < k →
    impl_IsName.l0 k s (s.size : Int) i = some (okn s d i) := by
  induction d with
  | zero =>
    intro k i h0 h1 hk
    obtain ⟨k, rfl⟩ := succ_of hk
    simp (disch := omega) only [impl_IsName.l0, if_neg, okn]
  | succ d ih =>
    intro k i h0 h1 hk
    obtain ⟨k, rfl⟩ := succ_of hk
    have hi := ih k (i + 1) (by omega) (by omega) (by omega)
    simp (disch := omega) only [impl_IsName.l0, if_pos, w64, byte_ok]
    rw [hi]
    simp only [okn, Option.bind_some]
    cases okb s i <;> simp

/-- Is this a name? -/
def nmok (s : ByteArray) : Bool := okn s s.size 0 && (decide (1 ≤ s.size) && decide (s.size ≤ 4))

theorem name_spec (s : ByteArray) (hn : s.size ≤ 140737488351232) (k : Nat) (hk : s.size < k) : spec_IsName.f k s = some (nmok s) :=
  name_spec_loop s hn s.size k 0 (by omega) (by omega) hk

theorem name_impl (s : ByteArray) (hn : s.size ≤ 140737488351232) (k : Nat) (hk : s.size + 1 < k) : impl_IsName.f k s = some (nmok s) := by
  obtain ⟨k, rfl⟩ := succ_of hk
  have hi := name_impl_loop s hn s.size k 0 (by omega) (by omega) (by omega)
  unfold nmok
  simp only [impl_IsName.f, impl_IsName.j0, hi]
  by_cases h : (s.size : Int) = 0
  · have h' : s.size = 0 := by omega
    rw [if_pos h]; simp [h']
  · have h' : 1 ≤ s.size := by omega
    rw [if_neg h]
    by_cases h4 : (s.size : Int) > 4
    · have h4' : ¬ s.size ≤ 4 := by omega
      simp [h4, h4']
    · have h4' : s.size ≤ 4 := by omega
      simp [h', h4']; omega

theorem nmok_empty : nmok ⟨#[]⟩ = false := by decide

theorem nmok_size {s : ByteArray} (h : nmok s = true) : s.size ≤ 4 := by
  unfold nmok at h
  simp at h
  omega

/-- Do the texts from the i-th on ascend, so many of them? -/
def ascN (l : List ByteArray) : Nat → Nat → Bool
  | 0, _ => true
  | d + 1, i => if i < l.length then (Op.bytesLess ((rdOf ByteArray.empty l ((i : Int) - 1)).toList) ((rdOf ByteArray.empty l (i : Int)).toList) && ascN l d (i + 1)) else true
def asc (l : List ByteArray) : Bool := ascN l l.length 1

theorem asc_loop (l : List ByteArray) (hl : l.length ≤ 1048576) (d : Nat) : ∀ (i : Nat), 1 ≤ i → l.length ≤ i + d → ∀ k, d < k → spec_AreAscending.l0 k l i = some (ascN l d i) ∧ impl_AreAscending.l0 k l i = some (ascN l d i) := by
  induction d with
  | zero =>
    intro i h1 hi k hk
    obtain ⟨k, rfl⟩ := succ_of hk
    simp (disch := omega) only [spec_AreAscending.l0, impl_AreAscending.l0, if_neg, ascN, and_self]
  | succ d ih =>
    intro i h1 hi k hk
    obtain ⟨k, rfl⟩ := succ_of hk
    by_cases hlt : i < l.length
    · obtain ⟨r1, r2⟩ := ih (i + 1) (by omega) (by omega) k (by omega)
      by_cases he : (Op.bytesLess ((rdOf ByteArray.empty l ((i : Int) - 1)).toList) ((rdOf ByteArray.empty l (i : Int)).toList)) = true
      · simp (disch := omega) only [spec_AreAscending.l0, impl_AreAscending.l0, ascN, if_pos hlt, w64, cast1, if_pos, if_pos he, r1, r2, he, Bool.true_and, if_true, and_self]
      · simp (disch := omega) only [spec_AreAscending.l0, impl_AreAscending.l0, ascN, if_pos hlt, w64, cast1, if_pos, if_neg he, Bool.eq_false_iff.mpr he, Bool.false_and, Bool.false_eq_true, if_false, and_self]
    · simp (disch := omega) only [spec_AreAscending.l0, impl_AreAscending.l0, ascN, if_neg hlt, if_neg, and_self]

theorem asc_f (l : List ByteArray) (hl : l.length ≤ 1048576) (k : Nat) (hk : l.length < k) : spec_AreAscending.f k l = some (asc l) ∧ impl_AreAscending.f k l = some (asc l) := asc_loop l hl l.length 1 (by omega) (by omega) k hk

/-- Are these labels in order? -/
def lab (l : List ByteArray) : Bool := l.all nmok && (decide (1 ≤ l.length) && decide (l.length ≤ 4) && asc l)

theorem l1In_f (a b c : Int) : spec_l1In.f a b c = some (decide (b ≤ a) && decide (a ≤ c)) := by
  unfold spec_l1In.f
  by_cases h : a ≥ b
  · have h' : b ≤ a := h
    simp [h']
  · have h' : ¬ b ≤ a := h
    simp [h']

theorem all_drop (l : List ByteArray) (i : Nat) (h : i < l.length) : (l.drop i).all nmok = (nmok l[i] && (l.drop (i + 1)).all nmok) := by
  rw [List.drop_eq_getElem_cons h, List.all_cons]

theorem lab_f (l : List ByteArray) (hl : l.length ≤ 1048576) (hs : ∀ s ∈ l, s.size ≤ 1048576) : Ev (fun k => spec_l3Labels.f k l) (lab l) ∧ Ev (fun k => impl_labelsOk.f k l) (lab l) := by
  obtain ⟨K, hK⟩ : ∃ K, ∀ s ∈ l, s.size + 1 < K := ⟨tot l + 2, fun s h => by have := tot_mem l s h; omega⟩
  have c1 : decide ((1 : Int) ≤ (l.length : Int)) = decide (1 ≤ l.length) := decide_eq_decide.mpr (by omega)
  have c4 : decide ((l.length : Int) ≤ 4) = decide (l.length ≤ 4) := decide_eq_decide.mpr (by omega)
  have loop1 : ∀ d i, i + d = l.length → ∀ k, K + l.length + d + 1 < k → spec_l3Labels.l0 k l i = some ((l.drop i).all nmok && (decide (1 ≤ l.length) && decide (l.length ≤ 4) && asc l)) := by
    intro d
    induction d with
    | zero =>
      intro i hi k hk
      obtain ⟨k, rfl⟩ := succ_of (show 0 < k by omega)
      have ha := (asc_f l hl k (by omega)).1
      rw [List.drop_of_length_le (by omega)]
      simp (disch := omega) only [spec_l3Labels.l0, if_neg, l1In_f, Option.bind_some, ha, c1, c4]
      cases h : (decide (1 ≤ l.length) && decide (l.length ≤ 4)) <;> simp
    | succ d ih =>
      intro i hi k hk
      obtain ⟨k, rfl⟩ := succ_of (show 0 < k by omega)
      have hlt : i < l.length := by omega
      have hm := hs _ (List.getElem_mem hlt)
      have hm2 := hK _ (List.getElem_mem hlt)
      have hn := name_spec l[i] (by omega) k (by omega)
      have e := ih (i + 1) (by omega) k (by omega)
      rw [all_drop l i hlt]
      simp (disch := omega) only [spec_l3Labels.l0, rd_at, if_pos, hn, Option.bind_some, w64, cast1, e]
      cases nmok l[i] <;> simp
  have loop2 : ∀ d i, i + d = l.length → ∀ k, K + l.length + d + 1 < k → impl_labelsOk.l0 k l (l.length : Int) i = some ((l.drop i).all nmok) := by
    intro d
    induction d with
    | zero =>
      intro i hi k hk
      obtain ⟨k, rfl⟩ := succ_of (show 0 < k by omega)
      rw [List.drop_of_length_le (by omega)]
      simp (disch := omega) only [impl_labelsOk.l0, if_neg, List.all_nil]
    | succ d ih =>
      intro i hi k hk
      obtain ⟨k, rfl⟩ := succ_of (show 0 < k by omega)
      have hlt : i < l.length := by omega
      have hm := hs _ (List.getElem_mem hlt)
      have hm2 := hK _ (List.getElem_mem hlt)
      have hn := name_impl l[i] (by omega) k (by omega)
      have e := ih (i + 1) (by omega) k (by omega)
      rw [all_drop l i hlt]
      simp (disch := omega) only [impl_labelsOk.l0, rd_at, if_pos, hn, Option.bind_some, w64, cast1, e]
      cases nmok l[i] <;> simp
  refine ⟨⟨K + l.length + l.length + 2, fun k hk => ?_⟩, ⟨K + l.length + l.length + 3, fun k hk => ?_⟩⟩
  · exact loop1 l.length 0 (by omega) k (by omega)
  · have e := loop2 l.length 0 (by omega)
    simp only [List.drop_zero, Int.natCast_zero] at e
    obtain ⟨k, rfl⟩ := succ_of (show 0 < k by omega)
    have ha := (asc_f l hl (k + 1) (by omega)).2
    have e' := e k (by omega)
    simp only [impl_labelsOk.f, impl_labelsOk.j0, ha, Option.bind_some, e', lab]
    by_cases h1 : (l.length : Int) < 1
    · have h1' : ¬ 1 ≤ l.length := by omega
      simp [h1, h1']
    · have h1' : 1 ≤ l.length := by omega
      by_cases h4 : (l.length : Int) > 4
      · have h4' : ¬ l.length ≤ 4 := by omega
        simp only [if_neg h1, if_pos h4, if_true]
        simp [h1', h4']
      · have h4' : l.length ≤ 4 := by omega
        simp only [if_neg h1, if_neg h4]
        cases asc l <;> simp [h1', h4']

theorem dec_len (n : Nat) (c : Nat) : ((n : Int) == (c : Int)) = decide (n = c) := by
  by_cases h : n = c
  · subst h; simp
  · have h2 : ¬ (n : Int) = (c : Int) := by omega
    simp [h, h2]

theorem empty_list {s : ByteArray} (h : s.toList = []) : nmok s = false := by
  have hs : s.size = 0 := by
    rw [ByteArray.toList_eq] at h
    have := congrArg List.length h
    simpa using this
  unfold nmok
  simp [hs]

/-- A value's own form, its text and labels left aside. -/
def qV (y : S30) : Bool :=
  if y.f0 = 1 then decide (y.f4.length = 0) else if y.f0 = 2 then decide (y.f4.length = 0) && (decide (0 ≤ y.f1) && decide (y.f1 ≤ 1))
  else if y.f0 = 3 then decide (y.f1 = 0) && (decide (y.f3.length = y.f4.length) && lab y.f3)
  else if y.f0 = 4 then decide (y.f1 = 0) && decide (y.f4.length = 1) else if y.f0 = 5 then decide (y.f1 = 0) else false

/-- Is a value well formed, its parts left aside? -/
def lfV (y : S30) : Bool :=
  qV y && (if y.f0 = 4 then nmok y.f2 else decide (y.f2.toList = [])) && (if y.f0 = 3 then true else decide (y.f3.length = 0))

mutual
/-- Is a value well formed? -/
def fmV : S30 → Bool
  | ⟨a, b, c, d, l⟩ => fmsV l && lfV ⟨a, b, c, d, l⟩
def fmsV : List S30 → Bool
  | [] => true
  | x :: xs => fmV x && fmsV xs
end

theorem fmV_eq (y : S30) : fmV y = (fmsV y.f4 && lfV y) := by cases y; simp only [fmV]
theorem fmsV_drop (l : List S30) (i : Nat) (h : i < l.length) : fmsV (l.drop i) = (fmV l[i] && fmsV (l.drop (i + 1))) := by
  rw [List.drop_eq_getElem_cons h, fmsV]

theorem jV_spec (y : S30) (h1 : y.f3.length ≤ 1048576) (h2 : ∀ s ∈ y.f3, s.size ≤ 1048576) : ∃ K, ∀ b k, K ≤ k → spec_l5Form.j1 k b y.f0 y.f1 y.f2 y.f3 y.f4 = some (!b && qV y) := by
  obtain ⟨⟨K, e⟩, -⟩ := lab_f y.f3 h1 h2
  refine ⟨K + 1, fun b k hk => ?_⟩
  obtain ⟨k, rfl⟩ := succ_of (show 0 < k by omega)
  have e' := e k (by omega)
  have d0 := dec_len y.f4.length 0
  have d1 := dec_len y.f4.length 1
  simp only [Int.natCast_zero, Int.natCast_one] at d0 d1
  have c0 : ((y.f4.length : Int) = 0) = (y.f4.length = 0) := by apply propext; omega
  have c3 : ((y.f3.length : Int) = (y.f4.length : Int)) = (y.f3.length = y.f4.length) := by apply propext; omega
  have b1 : (y.f1 == 0) = decide (y.f1 = 0) := rfl
  simp only [spec_l5Form.j1, e', Option.bind_some, qV, d0, d1, l1In_f, c0, c3, b1]
  cases b
  · by_cases a1 : y.f0 = 1
    · simp [a1]
    · by_cases a2 : y.f0 = 2
      · by_cases z : y.f4.length = 0 <;> simp only [a2, z] <;> simp
      · by_cases a3 : y.f0 = 3
        · by_cases z : y.f1 = 0 <;> by_cases z' : y.f3.length = y.f4.length <;> simp [a3, z, z']
        · by_cases a4 : y.f0 = 4
          · by_cases z : y.f1 = 0 <;> simp [a4, z]
          · by_cases a5 : y.f0 = 5 <;> simp [a1, a2, a3, a4, a5]
  · simp

theorem leafV_spec (y : S30) (h0 : y.f2.size ≤ 1048576) (h1 : y.f3.length ≤ 1048576) (h2 : ∀ s ∈ y.f3, s.size ≤ 1048576) : Ev (fun k => (spec_IsName.f k y.f2).bind fun t => (if ((y.f0 == 4) != t) = true then (spec_l5Form.j1 k true y.f0 y.f1 y.f2 y.f3 y.f4) else (if y.f0 = 4 then (if y.f0 = 3 then (spec_l5Form.j1 k false y.f0 y.f1 y.f2 y.f3 y.f4) else (spec_l5Form.j1 k (decide ((y.f3.length : Int) > 0)) y.f0 y.f1 y.f2 y.f3 y.f4)) else (if y.f2.toList = ([] : List UInt8) then (if y.f0 = 3 then (spec_l5Form.j1 k false y.f0 y.f1 y.f2 y.f3 y.f4) else (spec_l5Form.j1 k (decide ((y.f3.length : Int) > 0)) y.f0 y.f1 y.f2 y.f3 y.f4)) else (spec_l5Form.j1 k true y.f0 y.f1 y.f2 y.f3 y.f4))))) (lfV y) := by
  obtain ⟨K, e⟩ := jV_spec y h1 h2
  refine ⟨K + y.f2.size + 1, fun k hk => ?_⟩
  have g : ((y.f3.length : Int) > 0) = ¬ (y.f3.length = 0) := by apply propext; omega
  simp only [name_spec y.f2 (by omega) k (by omega), Option.bind_some, e _ k (by omega), lfV, g]
  by_cases a4 : y.f0 = 4
  · have a3 : ¬ y.f0 = 3 := by omega
    have b4 : (y.f0 == 4) = true := by simp [a4]
    simp only [if_neg a3, if_pos a4, b4]
    cases nmok y.f2 <;> by_cases z : y.f3.length = 0 <;> simp [z]
  · have b4 : (y.f0 == 4) = false := by simp [a4]
    simp only [if_neg a4, b4]
    by_cases t : y.f2.toList = []
    · rw [empty_list t]
      by_cases a3 : y.f0 = 3
      · simp [a3, t]
      · by_cases z : y.f3.length = 0 <;> simp [a3, t, z]
    · cases nmok y.f2 <;> simp [t]

theorem formV_spec (y : S30) (sm : SmV y) : Ev (fun k => spec_l5Form.f k y.f0 y.f1 y.f2 y.f3 y.f4) (fmV y) := by
  induction sm with
  | mk y h0 h1 h2 h3 h4 h5 ih =>
    obtain ⟨K0, e0⟩ := leafV_spec y h2 h3.1 h3.2
    have loop : ∀ d i, i + d = y.f4.length → Ev (fun k => spec_l5Form.l0 k i y.f0 y.f1 y.f2 y.f3 y.f4) (fmsV (y.f4.drop i) && lfV y) := by
      intro d
      induction d with
      | zero =>
        intro i hi'
        have e1 : fmsV (y.f4.drop i) = true := by rw [List.drop_of_length_le (by omega)]; simp [fmsV]
        rw [e1, Bool.true_and]
        refine ⟨K0 + 1, fun k hk => ?_⟩
        obtain ⟨k, rfl⟩ := succ_of (show 0 < k by omega)
        have e0' := e0 k (by omega)
        rw [← e0']
        simp (disch := omega) only [spec_l5Form.l0, if_neg]
      | succ d ihd =>
        intro i hi'
        have hlt : i < y.f4.length := by omega
        obtain ⟨K1, e1⟩ := ih y.f4[i] (List.getElem_mem hlt)
        obtain ⟨K2, e2⟩ := ihd (i + 1) (by omega)
        rw [fmsV_drop y.f4 i hlt]
        refine ⟨K1 + K2 + 1, fun k hk => ?_⟩
        obtain ⟨k, rfl⟩ := succ_of (show 0 < k by omega)
        simp (disch := omega) only [spec_l5Form.l0, rdIV, if_pos, e1, Option.bind_some, w64, cast1, e2]
        cases fmV y.f4[i] <;> simp
    obtain ⟨K, e⟩ := loop y.f4.length 0 (by omega)
    rw [fmV_eq]
    refine ⟨K + 1, fun k hk => ?_⟩
    obtain ⟨k, rfl⟩ := succ_of (show 0 < k by omega)
    have e' := e k (by omega)
    simp only [Int.natCast_zero, List.drop_zero] at e'
    simp only [spec_l5Form.f, e']

theorem formV_impl (y : S30) (sm : SmV y) : Ev (fun k => impl_valueFormed.f k y.f0 y.f1 y.f2 y.f3 y.f4) (fmV y) := by
  induction sm with
  | mk y h0 h1 h2 h3 h4 h5 ih =>
    obtain ⟨-, ⟨K0, e0⟩⟩ := lab_f y.f3 h3.1 h3.2
    have loop : ∀ d i, i + d = y.f4.length → ∀ b, Ev (fun k => impl_valueFormed.l0 k b y.f4 (y.f4.length : Int) i) (fmsV (y.f4.drop i) && b) := by
      intro d
      induction d with
      | zero =>
        intro i hi' b
        have e1 : fmsV (y.f4.drop i) = true := by rw [List.drop_of_length_le (by omega)]; simp [fmsV]
        rw [e1, Bool.true_and]
        refine ⟨1, fun k hk => ?_⟩
        obtain ⟨k, rfl⟩ := succ_of (show 0 < k by omega)
        simp (disch := omega) only [impl_valueFormed.l0, if_neg]
      | succ d ihd =>
        intro i hi' b
        have hlt : i < y.f4.length := by omega
        obtain ⟨K1, e1⟩ := ih y.f4[i] (List.getElem_mem hlt)
        obtain ⟨K2, e2⟩ := ihd (i + 1) (by omega) (fmV y.f4[i])
        obtain ⟨K3, e3⟩ := ihd (i + 1) (by omega) false
        rw [fmsV_drop y.f4 i hlt]
        refine ⟨K1 + K2 + K3 + 1, fun k hk => ?_⟩
        obtain ⟨k, rfl⟩ := succ_of (show 0 < k by omega)
        simp (disch := omega) only [impl_valueFormed.l0, rdIV, if_pos, e1, Option.bind_some, w64, cast1, e2, e3]
        cases b <;> cases fmV y.f4[i] <;> simp
    obtain ⟨K1, e1⟩ := loop y.f4.length 0 (by omega) true
    obtain ⟨K2, e2⟩ := loop y.f4.length 0 (by omega) false
    have eb : ∀ b, ∀ k, K1 + K2 < k → impl_valueFormed.j0 k b y.f0 y.f1 y.f2 y.f3 y.f4 = some (fmsV y.f4 && b) := by
      intro b k hk
      obtain ⟨k, rfl⟩ := succ_of (show 0 < k by omega)
      simp only [impl_valueFormed.j0]
      cases b
      · have := e2 k (by omega); simpa using this
      · have := e1 k (by omega); simpa using this
    rw [fmV_eq]
    refine ⟨K0 + K1 + K2 + y.f2.size + 4, fun k hk => ?_⟩
    obtain ⟨k, rfl⟩ := succ_of (show 0 < k by omega)
    have e0' := e0 k (by omega)
    have d0 := dec_len y.f4.length 0
    have d1 := dec_len y.f4.length 1
    have d3 := dec_len y.f3.length 0
    simp only [Int.natCast_zero, Int.natCast_one] at d0 d1 d3
    have c0 : ((y.f3.length : Int) = 0) = (y.f3.length = 0) := by apply propext; omega
    have c3 : ((y.f3.length : Int) = (y.f4.length : Int)) = (y.f3.length = y.f4.length) := by apply propext; omega
    simp only [impl_valueFormed.f, name_impl y.f2 (by omega) k (by omega), e0', eb _ k (by omega), Option.bind_some, lfV, qV, d0, d1, d3, c0, c3]
    by_cases a1 : y.f0 = 1
    · by_cases t : y.f2.toList = [] <;> by_cases z : y.f3.length = 0 <;> simp [a1, t, z]
    · by_cases a2 : y.f0 = 2
      · by_cases u : y.f1 = 0
        · by_cases t : y.f2.toList = [] <;> by_cases z : y.f3.length = 0 <;> simp [a2, t, z, u]
        · by_cases u' : y.f1 = 1
          · by_cases t : y.f2.toList = [] <;> by_cases z : y.f3.length = 0 <;> simp [a2, t, z, u']
          · have u2 : (decide (0 ≤ y.f1) && decide (y.f1 ≤ 1)) = false := by
              by_cases w : 0 ≤ y.f1
              · have : ¬ y.f1 ≤ 1 := by omega
                simp [this]
              · simp [w]
            simp [a2, u, u', u2]
      · by_cases a3 : y.f0 = 3
        · by_cases u : y.f1 = 0 <;> by_cases t : y.f2.toList = [] <;> by_cases z : y.f3.length = y.f4.length <;> simp [a3, t, z, u]
        · by_cases a4 : y.f0 = 4
          · by_cases u : y.f1 = 0 <;> by_cases z : y.f3.length = 0 <;> cases nmok y.f2 <;> simp [a4, z, u]
          · by_cases a5 : y.f0 = 5
            · by_cases u : y.f1 = 0 <;> by_cases t : y.f2.toList = [] <;> simp [a5, t, u]
            · simp [a1, a2, a3, a4, a5]

/-- Is it a value? -/
def isV (y : S30) : Bool := decide (ndV y ≤ 300) && fmV y

theorem isV_f (y : S30) (sm : SmV y) (hn : ndV y ≤ 1048577) : Ev (fun k => spec_IsValue.f k y.f0 y.f1 y.f2 y.f3 y.f4) (isV y) ∧ Ev (fun k => impl_IsValue.f k y.f0 y.f1 y.f2 y.f3 y.f4) (isV y) := by
  obtain ⟨r, ⟨K1, e1⟩, -, q1, q2⟩ := leftV_f y sm hn 300 (by omega) (by omega)
  obtain ⟨K4, e4⟩ := formV_spec y sm
  obtain ⟨K5, e5⟩ := formV_impl y sm
  obtain ⟨K6, e6⟩ := sizeVI_f y sm hn
  have c30 : ((ndV y : Int) ≤ 300) = (ndV y ≤ 300) := by apply propext; omega
  have cr : (r ≥ 0) = (ndV y ≤ 300) := by
    apply propext
    by_cases h : (ndV y : Int) ≤ 300
    · have := q1 h; omega
    · have := q2 (by omega); omega
  refine ⟨⟨K1 + K4, fun k hk => ?_⟩, ⟨K5 + K6, fun k hk => ?_⟩⟩
  · simp only [spec_IsValue.f, e1 k (by omega), e4 k (by omega), Option.bind_some, cr, isV]
    by_cases a : ndV y ≤ 300 <;> simp [a]
  · simp only [impl_IsValue.f, e6 k (by omega), e5 k (by omega), Option.bind_some, c30, isV]
    by_cases a : ndV y ≤ 300 <;> simp [a]

theorem rdIT (l : List S44) (i : Nat) (h : i < l.length) : rd_T44 l (i : Int) = l[i] := by simp [rd_T44, h]
theorem rdLT (l : List S39) (i : Nat) (h : i < l.length) : rd_T39 l (i : Int) = l[i] := by simp [rd_T39, h]

mutual
/-- How many types it holds, itself among them. -/
def ndT : S44 → Nat
  | ⟨_, _, l⟩ => ndsT l + 1
def ndsT : List S44 → Nat
  | [] => 0
  | x :: xs => ndT x + ndsT xs
end

theorem ndT_eq (y : S44) : ndT y = ndsT y.f2 + 1 := by cases y; simp only [ndT]
theorem ndsT_drop (l : List S44) (i : Nat) (h : i < l.length) : ndsT (l.drop i) = ndT l[i] + ndsT (l.drop (i + 1)) := by
  rw [List.drop_eq_getElem_cons h, ndsT]
theorem ndsT_len (l : List S44) : l.length ≤ ndsT l := by
  induction l with
  | nil => simp [ndsT]
  | cons x xs ih => have := ndT_eq x; simp only [ndsT, List.length_cons]; omega
theorem ndsT_mem (l : List S44) (z : S44) (h : z ∈ l) : ndT z ≤ ndsT l := by
  induction l with
  | nil => simp at h
  | cons x xs ih =>
    simp only [ndsT]
    rcases List.mem_cons.1 h with rfl | h
    · omega
    · have := ih h; omega

/-- Within bounds, all the way down. -/
inductive SmT : S44 → Prop
  | mk (y : S44) (h0 : -9223372036854775808 ≤ y.f0 ∧ y.f0 ≤ 9223372036854775807) (h1 : y.f1.length ≤ 1048576 ∧ ∀ s ∈ y.f1, s.size ≤ 1048576) (h2 : y.f2.length ≤ 1048576) (h3 : ∀ z ∈ y.f2, SmT z) : SmT y

theorem wf64T {n : Int} (h : (Lit.int .i64 n).wf = true) : -9223372036854775808 ≤ n ∧ n ≤ 9223372036854775807 := by
  simpa [Lit.wf, IntKind.min, IntKind.max, IntKind.signed, IntKind.bits] using h

theorem szT_to (x : S39) (ok : Ok39 x) : ∀ left : Int, 0 ≤ left → left ≤ 1048576 →
    ∃ r, Ev (fun k => laws_szType.f k x.f0 x.f1 x.f2 left) r ∧ (r < 0 ∨ 0 ≤ r ∧ ∃ y, SmT y ∧ Ev (fun k => laws_toType.f k x.f0 x.f1 x.f2) (y.f0, y.f1, y.f2) ∧ (ndT y : Int) + r ≤ left + 1) := by
  induction ok with
  | mk x h0 h1 h2 h3 h4 ih =>
    intro left hl0 hl1
    have bl := h3
    simp only [maxLen] at bl
    obtain ⟨rs, e0, q0⟩ := sz_g x.f1 h1 h2 (left) (by omega) (by omega)
    rcases q0 with q0 | ⟨q0, q1⟩
    · refine ⟨-1, ⟨x.f1.length + 2, fun k hk => ?_⟩, .inl (by omega)⟩
      obtain ⟨k, rfl⟩ := succ_of (show 0 < k by omega)
      have e0' := e0 k (by omega)
      simp (disch := omega) only [laws_szType.f, w64, if_neg, e0', Option.bind_some, if_pos]
    by_cases hneg2 : rs - (x.f2.length : Int) < 0
    · refine ⟨-1, ⟨x.f1.length + 3, fun k hk => ?_⟩, .inl (by omega)⟩
      obtain ⟨k, rfl⟩ : ∃ m, k = m + 2 := ⟨k - 2, by omega⟩
      have e0' := e0 (k + 1) (by omega)
      simp (disch := omega) only [laws_szType.f, laws_szTypeS.f, w64, e0', if_pos, if_neg, Option.bind_some]
    have loop : ∀ d i (left : Int), i + d = x.f2.length → 0 ≤ left → left ≤ 1048576 → ∃ r, Ev (fun k => laws_szTypeS.l0 k x.f2 left i) r ∧ (r < 0 ∨ 0 ≤ r ∧ ∃ ys : List S44, ys.length = d ∧ (∀ z ∈ ys, SmT z) ∧ (ndsT ys : Int) + r ≤ left + d ∧
        ∀ p : List S44, p.length = i → Ev (fun k => laws_toTypeS.l0 k x.f2 (p ++ List.replicate d z44) i) (p ++ ys)) := by
      intro d
      induction d with
      | zero =>
        intro i left hi g0 g1
        refine ⟨left, ⟨1, fun k hk => ?_⟩, .inr ⟨g0, [], rfl, by simp, by simp [ndsT], fun p hp => ⟨1, fun k hk => ?_⟩⟩⟩ <;> obtain ⟨k, rfl⟩ := succ_of (show 0 < k by omega)
        · simp (disch := omega) only [laws_szTypeS.l0, if_neg]
        · simp (disch := omega) only [laws_toTypeS.l0, if_neg]; simp
      | succ d ihd =>
        intro i left hi g0 g1
        have hlt : i < x.f2.length := by omega
        obtain ⟨r1, ⟨K1, e1⟩, hr1⟩ := ih x.f2[i] (List.getElem_mem hlt) left g0 g1
        rcases hr1 with hr1 | ⟨hr1, y, sm, ⟨K2, e2⟩, hn⟩
        · refine ⟨-1, ⟨K1 + 1, fun k hk => ?_⟩, .inl (by omega)⟩
          obtain ⟨k, rfl⟩ := succ_of (show 0 < k by omega)
          simp (disch := omega) only [laws_szTypeS.l0, rdLT, if_pos, e1, Option.bind_some]
        · have hy := ndT_eq y
          obtain ⟨r, ⟨K3, e3⟩, hr⟩ := ihd (i + 1) r1 (by omega) hr1 (by omega)
          refine ⟨r, ⟨K1 + K3 + 1, fun k hk => ?_⟩, ?_⟩
          · obtain ⟨k, rfl⟩ := succ_of (show 0 < k by omega)
            simp (disch := omega) only [laws_szTypeS.l0, rdLT, if_pos, if_neg, e1, Option.bind_some, w64, cast1, e3]
          · rcases hr with hr | ⟨hr, ys, hlen, hsm, hnd, hto⟩
            · exact .inl hr
            · refine .inr ⟨hr, y :: ys, by simp [hlen], ?_, ?_, fun p hp => ?_⟩
              · intro z hz
                rcases List.mem_cons.1 hz with rfl | hz
                · exact sm
                · exact hsm z hz
              · simp only [ndsT]; omega
              · obtain ⟨K4, e4⟩ := hto (p ++ [y]) (by simp [hp])
                refine ⟨K2 + K4 + 1, fun k hk => ?_⟩
                obtain ⟨k, rfl⟩ := succ_of (show 0 < k by omega)
                have hq : (i : Int) < ((p ++ List.replicate (d + 1) z44).length : Int) := by simp; omega
                have es : (p ++ List.replicate (d + 1) z44).set i y = (p ++ [y]) ++ List.replicate d z44 := by
                  rw [List.set_append_right _ _ (by omega), hp, Nat.sub_self, List.replicate_succ, List.set_cons_zero, List.append_assoc]; rfl
                have ey : (⟨y.f0, y.f1, y.f2⟩ : S44) = y := by cases y; rfl
                simp (disch := omega) only [laws_toTypeS.l0, rdLT, if_pos, e2, Option.bind_some, w64, cast1, Int.toNat_natCast, if_pos hq, ey, es, e4]
                simp
    obtain ⟨r, ⟨K1, e1⟩, hr⟩ := loop x.f2.length 0 (rs - (x.f2.length : Int)) (by omega) (by omega) (by omega)
    rcases hr with hr | ⟨hr, ys, hlen, hsm, hnd, hto⟩
    · refine ⟨-1, ⟨K1 + x.f1.length + 3, fun k hk => ?_⟩, .inl (by omega)⟩
      obtain ⟨k, rfl⟩ : ∃ m, k = m + 2 := ⟨k - 2, by omega⟩
      have e1' := e1 k (by omega)
      have e0' := e0 (k + 1) (by omega)
      simp only [Int.natCast_zero] at e1'
      simp (disch := omega) only [laws_szType.f, laws_szTypeS.f, w64, e0', if_neg, if_pos, e1', Option.bind_some]
    · refine ⟨r, ⟨K1 + x.f1.length + 3, fun k hk => ?_⟩, .inr ⟨hr, ⟨x.f0, x.f1, ys⟩, ?_, ?_, ?_⟩⟩
      · obtain ⟨k, rfl⟩ : ∃ m, k = m + 2 := ⟨k - 2, by omega⟩
        have e1' := e1 k (by omega)
        have e0' := e0 (k + 1) (by omega)
        simp only [Int.natCast_zero] at e1'
        simp (disch := omega) only [laws_szType.f, laws_szTypeS.f, w64, e0', if_neg, e1', Option.bind_some]
      · exact .mk _ (wf64T h0) ⟨by show x.f1.length ≤ _; omega, fun s hs => by have := tot_mem x.f1 s hs; omega⟩ (by show ys.length ≤ _; omega) hsm
      · obtain ⟨K2, e2⟩ := hto [] rfl
        refine ⟨K2 + x.f1.length + 3, fun k hk => ?_⟩
        obtain ⟨k, rfl⟩ : ∃ m, k = m + 2 := ⟨k - 2, by omega⟩
        have e2' := e2 k (by omega)
        have t0 := to_f x.f1 (by omega) (k + 1) (by omega)
        simp only [Int.natCast_zero, List.nil_append] at e2'
        simp (disch := omega) only [laws_toType.f, laws_toTypeS.f, t0, if_pos, Int.toNat_natCast, e2', Option.bind_some]
      · simp only [ndT]; omega

theorem eqT_self (y : S44) (sm : SmT y) : Ev (fun k => laws_eqType.f k y.f0 y.f1 y.f2 y.f0 y.f1 y.f2) true := by
  induction sm with
  | mk y h0 h1 h3_ h4_ ih =>
    have loop : ∀ d i, i + d = y.f2.length → Ev (fun k => laws_eqTypeS.l0 k y.f2 y.f2 i) true := by
      intro d
      induction d with
      | zero =>
        intro i hi
        refine ⟨1, fun k hk => ?_⟩
        obtain ⟨k, rfl⟩ := succ_of (show 0 < k by omega)
        simp (disch := omega) only [laws_eqTypeS.l0, if_neg]
      | succ d ihd =>
        intro i hi
        have hlt : i < y.f2.length := by omega
        obtain ⟨K1, e1⟩ := ih y.f2[i] (List.getElem_mem hlt)
        obtain ⟨K2, e2⟩ := ihd (i + 1) (by omega)
        refine ⟨K1 + K2 + 1, fun k hk => ?_⟩
        obtain ⟨k, rfl⟩ := succ_of (show 0 < k by omega)
        simp (disch := omega) only [laws_eqTypeS.l0, rdIT, if_pos, e1, Option.bind_some, w64, cast1, e2, if_true]
    obtain ⟨K, e⟩ := loop y.f2.length 0 (by omega)
    refine ⟨K + y.f1.length + 3, fun k hk => ?_⟩
    obtain ⟨k, rfl⟩ : ∃ m, k = m + 2 := ⟨k - 2, by omega⟩
    have e' := e k (by omega)
    have e0 := eq_f y.f1 (by have := h1.1; omega) (k + 1) (by omega)
    simp only [Int.natCast_zero] at e'
    simp only [laws_eqType.f, laws_eqTypeS.f, e0, if_true, e', Option.bind_some]

theorem sizeTI_f (y : S44) (sm : SmT y) (hn : ndT y ≤ 1048577) : Ev (fun k => impl_SizeOfType.f k y.f0 y.f1 y.f2) (ndT y) := by
  induction sm with
  | mk y g0 g1 h3 h4 ih =>
    have he := ndT_eq y
    have loop : ∀ d i (a : Int), i + d = y.f2.length → 0 ≤ a → a + ndsT (y.f2.drop i) ≤ 1048577 → Ev (fun k => impl_SizeOfType.l0 k a y.f2 y.f2.length i) (a + ndsT (y.f2.drop i)) := by
      intro d
      induction d with
      | zero =>
        intro i a hi ha hb
        have e0 : (ndsT (y.f2.drop i) : Int) = 0 := by rw [List.drop_of_length_le (by omega)]; simp [ndsT]
        rw [e0, Int.add_zero]
        refine ⟨1, fun k hk => ?_⟩
        obtain ⟨k, rfl⟩ := succ_of (show 0 < k by omega)
        simp (disch := omega) only [impl_SizeOfType.l0, if_neg]
      | succ d ihd =>
        intro i a hi ha hb
        have hlt : i < y.f2.length := by omega
        rw [ndsT_drop y.f2 i hlt] at hb ⊢
        have hm := ndsT_mem y.f2 _ (List.getElem_mem hlt)
        obtain ⟨K2, e2⟩ := ih y.f2[i] (List.getElem_mem hlt) (by omega)
        obtain ⟨K4, e4⟩ := ihd (i + 1) (a + ndT y.f2[i]) (by omega) (by omega) (by omega)
        have ea : a + ((ndT y.f2[i] + ndsT (y.f2.drop (i + 1)) : Nat) : Int) = a + ndT y.f2[i] + ndsT (y.f2.drop (i + 1)) := by omega
        rw [ea]
        refine ⟨K2 + K4 + 1, fun k hk => ?_⟩
        obtain ⟨k, rfl⟩ := succ_of (show 0 < k by omega)
        simp (disch := omega) only [impl_SizeOfType.l0, rdIT, if_pos, e2, Option.bind_some, w64, cast1, e4]
    obtain ⟨K4, e4⟩ := loop y.f2.length 0 1 (by omega) (by omega) (by simp only [List.drop_zero]; omega)
    have ea : (1 : Int) + ndsT (y.f2.drop 0) = ndT y := by simp only [List.drop_zero]; omega
    rw [ea] at e4
    refine ⟨K4 + 1, fun k hk => ?_⟩
    obtain ⟨k, rfl⟩ := succ_of (show 0 < k by omega)
    simp only [impl_SizeOfType.f]; exact e4 k (by omega)

mutual
/-- How deep a type is. -/
def dpT : S44 → Nat
  | ⟨_, _, l⟩ => dpsT l + 1
def dpsT : List S44 → Nat
  | [] => 0
  | x :: xs => max (dpT x) (dpsT xs)
end

theorem dpT_eq (y : S44) : dpT y = dpsT y.f2 + 1 := by cases y; simp only [dpT]
theorem dpsT_drop (l : List S44) (i : Nat) (h : i < l.length) : dpsT (l.drop i) = max (dpT l[i]) (dpsT (l.drop (i + 1))) := by
  rw [List.drop_eq_getElem_cons h, dpsT]
mutual
theorem dpT_le : ∀ y : S44, dpT y ≤ ndT y
  | ⟨a, b, l⟩ => by simp only [dpT, ndT]; have := dpsT_le l; omega
theorem dpsT_le : ∀ l : List S44, dpsT l ≤ ndsT l
  | [] => by simp [dpsT, ndsT]
  | x :: xs => by simp only [dpsT, ndsT]; have := dpT_le x; have := dpsT_le xs; omega
end

theorem mx_nat (a b : Nat) : mx (a : Int) (b : Int) = ((max a b : Nat) : Int) := by unfold mx; split <;> omega

theorem depthT_f (y : S44) (sm : SmT y) (hn : ndT y ≤ 1048577) : Ev (fun k => spec_DepthOfType.f k y.f0 y.f1 y.f2) (dpT y) ∧ Ev (fun k => impl_DepthOfType.f k y.f0 y.f1 y.f2) (dpT y) := by
  induction sm with
  | mk y g0 g1 h3 h4 ih =>
    have he := ndT_eq y
    have hd := dpT_eq y
    have hle := dpT_le y
    have loop : ∀ d i (a : Nat), i + d = y.f2.length → a ≤ 1048577 → Ev (fun k => spec_DepthOfType.l0 k a i y.f0 y.f1 y.f2) ((max a (dpsT (y.f2.drop i)) + 1 : Nat) : Int) ∧ Ev (fun k => impl_DepthOfType.l0 k a y.f2 y.f2.length i) ((max a (dpsT (y.f2.drop i)) + 1 : Nat) : Int) := by
      intro d
      induction d with
      | zero =>
        intro i a hi ha
        have e0 : dpsT (y.f2.drop i) = 0 := by rw [List.drop_of_length_le (by omega)]; simp [dpsT]
        have e1 : max a (dpsT (y.f2.drop i)) + 1 = a + 1 := by omega
        rw [e1]
        refine ⟨⟨1, fun k hk => ?_⟩, ⟨1, fun k hk => ?_⟩⟩ <;> obtain ⟨k, rfl⟩ := succ_of (show 0 < k by omega)
        · simp (disch := omega) only [spec_DepthOfType.l0, if_neg, w64, cast1]
        · simp (disch := omega) only [impl_DepthOfType.l0, if_neg, w64, cast1]
      | succ d ihd =>
        intro i a hi ha
        have hlt : i < y.f2.length := by omega
        have hm := ndsT_mem y.f2 _ (List.getElem_mem hlt)
        have hz := dpT_le y.f2[i]
        rw [dpsT_drop y.f2 i hlt]
        obtain ⟨⟨K1, e1⟩, ⟨K2, e2⟩⟩ := ih y.f2[i] (List.getElem_mem hlt) (by omega)
        obtain ⟨⟨K3, e3⟩, ⟨K4, e4⟩⟩ := ihd (i + 1) (max a (dpT y.f2[i])) (by omega) (by omega)
        have ea : max a (max (dpT y.f2[i]) (dpsT (y.f2.drop (i + 1)))) = max (max a (dpT y.f2[i])) (dpsT (y.f2.drop (i + 1))) := by omega
        rw [ea]
        refine ⟨⟨K1 + K3 + 1, fun k hk => ?_⟩, ⟨K2 + K4 + 1, fun k hk => ?_⟩⟩ <;> obtain ⟨k, rfl⟩ := succ_of (show 0 < k by omega)
        · have em : spec_l1Max.f (a : Int) (dpT y.f2[i] : Int) = some ((max a (dpT y.f2[i]) : Nat) : Int) := by
            unfold spec_l1Max.f; split <;> congr 1 <;> omega
          simp (disch := omega) only [spec_DepthOfType.l0, rdIT, if_pos, e1, Option.bind_some, em, w64, cast1, e3]
        · simp (disch := omega) only [impl_DepthOfType.l0, rdIT, if_pos, e2, Option.bind_some, mx_nat, w64, cast1, e4]
    obtain ⟨⟨K3, e3⟩, ⟨K4, e4⟩⟩ := loop y.f2.length 0 0 (by omega) (by omega)
    have ea : max 0 (dpsT (y.f2.drop 0)) + 1 = dpT y := by simp only [List.drop_zero]; omega
    rw [ea] at e3 e4
    refine ⟨⟨K3 + 1, fun k hk => ?_⟩, ⟨K4 + 1, fun k hk => ?_⟩⟩ <;> obtain ⟨k, rfl⟩ := succ_of (show 0 < k by omega)
    · simp only [spec_DepthOfType.f]; exact e3 k (by omega)
    · simp only [impl_DepthOfType.f]; exact e4 k (by omega)

theorem leftT_f (y : S44) (sm : SmT y) (hn : ndT y ≤ 1048577) : ∀ left : Int, 0 ≤ left → left ≤ 1048576 → ∃ r, Ev (fun k => spec_l3Left.f k y.f0 y.f1 y.f2 left) r ∧ r ≤ 1048576 ∧ ((ndT y : Int) ≤ left → r = left - ndT y) ∧ (left < (ndT y : Int) → r < 0) := by
  induction sm with
  | mk y g0 g1 h3 h4 ih =>
    intro left g0 g1
    have he := ndT_eq y
    have loop : ∀ d i (a : Int), i + d = y.f2.length → -1 ≤ a → a ≤ 1048576 → ∃ r, Ev (fun k => spec_l3Left.l0 k a i y.f0 y.f1 y.f2) r ∧ r ≤ 1048576 ∧ ((ndsT (y.f2.drop i) : Int) ≤ a → r = a - ndsT (y.f2.drop i)) ∧ (a < (ndsT (y.f2.drop i) : Int) → r < 0) := by
      intro d
      induction d with
      | zero =>
        intro i a hi ha hb
        have e0 : (ndsT (y.f2.drop i) : Int) = 0 := by rw [List.drop_of_length_le (by omega)]; simp [ndsT]
        rw [e0]
        refine ⟨a, ⟨1, fun k hk => ?_⟩, hb, fun _ => by omega, fun h => h⟩
        obtain ⟨k, rfl⟩ := succ_of (show 0 < k by omega)
        simp (disch := omega) only [spec_l3Left.l0, if_neg]
      | succ d ihd =>
        intro i a hi ha hb
        have hlt : i < y.f2.length := by omega
        rw [ndsT_drop y.f2 i hlt]
        have hm := ndsT_mem y.f2 _ (List.getElem_mem hlt)
        have hp := ndT_eq y.f2[i]
        by_cases hneg : a < 0
        · refine ⟨a, ⟨1, fun k hk => ?_⟩, hb, fun _ => by omega, fun _ => hneg⟩
          obtain ⟨k, rfl⟩ := succ_of (show 0 < k by omega)
          simp (disch := omega) only [spec_l3Left.l0, if_pos, if_neg]
        · obtain ⟨r1, ⟨K1, e1⟩, hb1, q1, q2⟩ := ih y.f2[i] (List.getElem_mem hlt) (by omega) a (by omega) hb
          by_cases hr : (ndT y.f2[i] : Int) ≤ a
          · have hr1 := q1 hr
            obtain ⟨r, ⟨K3, e3⟩, hb3, q3, q4⟩ := ihd (i + 1) r1 (by omega) (by omega) hb1
            refine ⟨r, ⟨K1 + K3 + 1, fun k hk => ?_⟩, hb3, fun h => by rw [q3 (by omega)]; omega, fun h => q4 (by omega)⟩
            obtain ⟨k, rfl⟩ := succ_of (show 0 < k by omega)
            simp (disch := omega) only [spec_l3Left.l0, rdIT, if_pos, e1, Option.bind_some, w64, cast1, e3]
          · have hr1 := q2 (by omega)
            refine ⟨r1, ⟨K1 + 2, fun k hk => ?_⟩, hb1, fun h => by omega, fun _ => hr1⟩
            obtain ⟨k, rfl⟩ : ∃ m, k = m + 2 := ⟨k - 2, by omega⟩
            have e1' := e1 (k + 1) (by omega)
            simp (disch := omega) only [spec_l3Left.l0, rdIT, if_pos, e1', Option.bind_some, w64, cast1, if_neg, ite_self]
    obtain ⟨r, ⟨K3, e3⟩, hb3, q3, q4⟩ := loop y.f2.length 0 (left - 1) (by omega) (by omega) (by omega)
    rw [List.drop_zero] at q3 q4
    refine ⟨r, ⟨K3 + 1, fun k hk => ?_⟩, hb3, fun h => by rw [q3 (by omega)]; omega, fun h => q4 (by omega)⟩
    obtain ⟨k, rfl⟩ := succ_of (show 0 < k by omega)
    have e3' := e3 k (by omega)
    simp only [Int.natCast_zero] at e3'
    simp (disch := omega) only [spec_l3Left.f, w64, e3']


/-- Is a type well formed, its parts left aside? -/
def lfT (y : S44) : Bool :=
  if y.f0 = 1 ∨ y.f0 = 2 then decide (y.f1.length = 0) && decide (y.f2.length = 0)
  else if y.f0 = 3 ∨ y.f0 = 4 then decide (y.f1.length = y.f2.length) && lab y.f1
  else if y.f0 = 5 then decide (y.f1.length = 0) && decide (y.f2.length = 1) else false

mutual
/-- Is a type well formed? -/
def fmT : S44 → Bool
  | ⟨a, b, l⟩ => fmsT l && lfT ⟨a, b, l⟩
def fmsT : List S44 → Bool
  | [] => true
  | x :: xs => fmT x && fmsT xs
end

theorem fmT_eq (y : S44) : fmT y = (fmsT y.f2 && lfT y) := by cases y; simp only [fmT]
theorem fmsT_drop (l : List S44) (i : Nat) (h : i < l.length) : fmsT (l.drop i) = (fmT l[i] && fmsT (l.drop (i + 1))) := by
  rw [List.drop_eq_getElem_cons h, fmsT]

theorem j_spec (y : S44) (h1 : y.f1.length ≤ 1048576) (h2 : ∀ s ∈ y.f1, s.size ≤ 1048576) (b : Bool) (hb : b = decide (y.f0 = 1 ∨ y.f0 = 2)) : Ev (fun k => spec_l3Form.j1 k y.f0 b y.f0 y.f1 y.f2) (lfT y) := by
  obtain ⟨⟨K, e⟩, -⟩ := lab_f y.f1 h1 h2
  refine ⟨K + 3, fun k hk => ?_⟩
  obtain ⟨k, rfl⟩ : ∃ m, k = m + 2 := ⟨k - 2, by omega⟩
  have e' := e k (by omega)
  have d0 := dec_len y.f2.length 0
  have d1 := dec_len y.f2.length 1
  simp only [Int.natCast_zero, Int.natCast_one] at d0 d1
  simp only [spec_l3Form.j1, spec_l3Form.j2, e', Option.bind_some, lfT, hb, d0, d1]
  by_cases a : y.f0 = 1 ∨ y.f0 = 2
  · by_cases z : y.f1.length = 0
    · have z' : y.f1 = [] := List.length_eq_zero_iff.mp z
      simp [a, z']
    · have z' : ¬ (y.f1.length : Int) = 0 := by omega
      simp only [a, decide_true, if_true, if_neg z', z, decide_false, Bool.false_and]
  · have s0 : decide (y.f0 = 1 ∨ y.f0 = 2) = false := by simpa using a
    have s1 : (if y.f0 = 3 then (y.f0 == 3) else (y.f0 == 4)) = decide (y.f0 = 3 ∨ y.f0 = 4) := by
      by_cases h3 : y.f0 = 3
      · simp [h3]
      · by_cases h4 : y.f0 = 4 <;> simp [h3, h4]
    rw [s0, if_neg (by simp), if_neg a]
    by_cases b3 : y.f0 = 3 ∨ y.f0 = 4
    · have t3 : (y.f0 == 3) = true ∨ (y.f0 ≠ 3 ∧ (y.f0 == 4) = true) := by
        rcases b3 with b3 | b3
        · exact .inl (by simp [b3])
        · exact .inr (by simp [b3])
      by_cases z : y.f1.length = y.f2.length
      · have z' : (y.f2.length : Int) = (y.f1.length : Int) := by omega
        rcases b3 with b3 | b3 <;> simp [b3, z', z]
      · have z' : ¬ (y.f2.length : Int) = (y.f1.length : Int) := by omega
        have z'' : ¬ y.f2.length = y.f1.length := by omega
        rcases b3 with b3 | b3 <;> simp [b3, z', z'', z]
    · have n3 : ¬ y.f0 = 3 := fun h => b3 (.inl h)
      have n4 : ¬ y.f0 = 4 := fun h => b3 (.inr h)
      by_cases h5 : y.f0 = 5
      · by_cases z : y.f1.length = 0
        · have z' : y.f1 = [] := List.length_eq_zero_iff.mp z
          simp [h5, z']
        · have z' : ¬ (y.f1.length : Int) = 0 := by omega
          simp only [h5, if_neg z']
          simp [z]
      · simp [n3, n4, h5]

theorem formT_spec (y : S44) (sm : SmT y) : Ev (fun k => spec_l3Form.f k y.f0 y.f1 y.f2) (fmT y) := by
  induction sm with
  | mk y h0 h1 h3 h4 ih =>
    obtain ⟨K0, e0⟩ := j_spec y h1.1 h1.2 (decide (y.f0 = 1 ∨ y.f0 = 2)) rfl
    have loop : ∀ d i, i + d = y.f2.length → Ev (fun k => spec_l3Form.l0 k i y.f0 y.f1 y.f2) (fmsT (y.f2.drop i) && lfT y) := by
      intro d
      induction d with
      | zero =>
        intro i hi'
        have e1 : fmsT (y.f2.drop i) = true := by rw [List.drop_of_length_le (by omega)]; simp [fmsT]
        rw [e1, Bool.true_and]
        refine ⟨K0 + 1, fun k hk => ?_⟩
        obtain ⟨k, rfl⟩ := succ_of (show 0 < k by omega)
        have e0' := e0 k (by omega)
        simp (disch := omega) only [spec_l3Form.l0, if_neg]
        by_cases a : y.f0 = 1
        · have s : (y.f0 == 1) = decide (y.f0 = 1 ∨ y.f0 = 2) := by simp [a]
          rw [if_pos a, s]; exact e0'
        · have s : (y.f0 == 2) = decide (y.f0 = 1 ∨ y.f0 = 2) := by
            by_cases a2 : y.f0 = 2 <;> simp [a, a2]
          rw [if_neg a, s]; exact e0'
      | succ d ihd =>
        intro i hi'
        have hlt : i < y.f2.length := by omega
        obtain ⟨K1, e1⟩ := ih y.f2[i] (List.getElem_mem hlt)
        obtain ⟨K2, e2⟩ := ihd (i + 1) (by omega)
        rw [fmsT_drop y.f2 i hlt]
        refine ⟨K1 + K2 + 1, fun k hk => ?_⟩
        obtain ⟨k, rfl⟩ := succ_of (show 0 < k by omega)
        simp (disch := omega) only [spec_l3Form.l0, rdIT, if_pos, e1, Option.bind_some, w64, cast1, e2]
        cases fmT y.f2[i] <;> simp
    obtain ⟨K, e⟩ := loop y.f2.length 0 (by omega)
    rw [fmT_eq]
    refine ⟨K + 1, fun k hk => ?_⟩
    obtain ⟨k, rfl⟩ := succ_of (show 0 < k by omega)
    have e' := e k (by omega)
    simp only [Int.natCast_zero, List.drop_zero] at e'
    simp only [spec_l3Form.f, e']

theorem formT_impl (y : S44) (sm : SmT y) : Ev (fun k => impl_typeFormed.f k y.f0 y.f1 y.f2) (fmT y) := by
  induction sm with
  | mk y h0 h1 h3 h4 ih =>
    obtain ⟨-, ⟨K0, e0⟩⟩ := lab_f y.f1 h1.1 h1.2
    have loop : ∀ d i, i + d = y.f2.length → ∀ b, Ev (fun k => impl_typeFormed.l0 k b y.f2 (y.f2.length : Int) i) (fmsT (y.f2.drop i) && b) := by
      intro d
      induction d with
      | zero =>
        intro i hi' b
        have e1 : fmsT (y.f2.drop i) = true := by rw [List.drop_of_length_le (by omega)]; simp [fmsT]
        rw [e1, Bool.true_and]
        refine ⟨1, fun k hk => ?_⟩
        obtain ⟨k, rfl⟩ := succ_of (show 0 < k by omega)
        simp (disch := omega) only [impl_typeFormed.l0, if_neg]
      | succ d ihd =>
        intro i hi' b
        have hlt : i < y.f2.length := by omega
        obtain ⟨K1, e1⟩ := ih y.f2[i] (List.getElem_mem hlt)
        obtain ⟨K2, e2⟩ := ihd (i + 1) (by omega) (fmT y.f2[i])
        obtain ⟨K3, e3⟩ := ihd (i + 1) (by omega) false
        rw [fmsT_drop y.f2 i hlt]
        refine ⟨K1 + K2 + K3 + 1, fun k hk => ?_⟩
        obtain ⟨k, rfl⟩ := succ_of (show 0 < k by omega)
        simp (disch := omega) only [impl_typeFormed.l0, rdIT, if_pos, e1, Option.bind_some, w64, cast1, e2, e3]
        cases b <;> cases fmT y.f2[i] <;> simp
    obtain ⟨K1, e1⟩ := loop y.f2.length 0 (by omega) true
    obtain ⟨K2, e2⟩ := loop y.f2.length 0 (by omega) false
    have eb : ∀ b, ∀ k, K1 + K2 ≤ k → impl_typeFormed.l0 k b y.f2 (y.f2.length : Int) 0 = some (fmsT y.f2 && b) := by
      intro b k hk
      cases b
      · have := e2 k (by omega); simpa using this
      · have := e1 k (by omega); simpa using this
    rw [fmT_eq]
    refine ⟨K0 + K1 + K2 + 4, fun k hk => ?_⟩
    obtain ⟨k, rfl⟩ : ∃ m, k = m + 4 := ⟨k - 4, by omega⟩
    have e0' := e0 (k + 1) (by omega)
    have d0 := dec_len y.f2.length 0
    have d1 := dec_len y.f2.length 1
    simp only [Int.natCast_zero, Int.natCast_one] at d0 d1
    simp (disch := omega) only [impl_typeFormed.f, impl_typeFormed.j0, impl_typeFormed.j1, impl_typeFormed.j2, e0', eb, Option.bind_some, lfT, d0, d1]
    by_cases a : y.f0 = 1 ∨ y.f0 = 2
    · by_cases z : y.f1.length = 0
      · have z' : y.f1 = [] := List.length_eq_zero_iff.mp z
        rcases a with a | a <;> simp [a, z']
      · have z' : ¬ (y.f1.length : Int) = 0 := by omega
        rcases a with a | a <;> simp only [a, if_neg z'] <;> simp [z]
    · have n1 : ¬ y.f0 = 1 := fun h => a (.inl h)
      have n2 : ¬ y.f0 = 2 := fun h => a (.inr h)
      have q2 : (y.f0 == 2) = false := by simpa using n2
      rw [if_neg n1, q2, if_neg (by simp), if_neg a]
      by_cases b3 : y.f0 = 3 ∨ y.f0 = 4
      · by_cases z : y.f1.length = y.f2.length
        · have z' : (y.f1.length : Int) = (y.f2.length : Int) := by omega
          rcases b3 with b3 | b3 <;> simp [b3, z', z]
        · have z' : ¬ (y.f1.length : Int) = (y.f2.length : Int) := by omega
          rcases b3 with b3 | b3 <;> simp [b3, z', z]
      · have n3 : ¬ y.f0 = 3 := fun h => b3 (.inl h)
        have n4 : ¬ y.f0 = 4 := fun h => b3 (.inr h)
        by_cases h5 : y.f0 = 5
        · by_cases z : y.f1.length = 0
          · have z' : y.f1 = [] := List.length_eq_zero_iff.mp z
            simp [h5, z']
          · have z' : ¬ (y.f1.length : Int) = 0 := by omega
            simp only [h5, if_neg z']
            simp [z]
        · simp [n3, n4, h5]

/-- Is it a type? -/
def isT (y : S44) : Bool := decide (ndT y ≤ 30) && (decide (dpT y ≤ 8) && fmT y)

theorem isT_f (y : S44) (sm : SmT y) (hn : ndT y ≤ 1048577) : Ev (fun k => spec_IsValidType.f k y.f0 y.f1 y.f2) (isT y) ∧ Ev (fun k => impl_IsValidType.f k y.f0 y.f1 y.f2) (isT y) := by
  obtain ⟨r, ⟨K1, e1⟩, -, q1, q2⟩ := leftT_f y sm hn 30 (by omega) (by omega)
  obtain ⟨⟨K2, e2⟩, ⟨K3, e3⟩⟩ := depthT_f y sm hn
  obtain ⟨K4, e4⟩ := formT_spec y sm
  obtain ⟨K5, e5⟩ := formT_impl y sm
  obtain ⟨K6, e6⟩ := sizeTI_f y sm hn
  have c8 : ((dpT y : Int) ≤ 8) = (dpT y ≤ 8) := by apply propext; omega
  have c30 : ((ndT y : Int) ≤ 30) = (ndT y ≤ 30) := by apply propext; omega
  have cr : (r ≥ 0) = (ndT y ≤ 30) := by
    apply propext
    by_cases h : (ndT y : Int) ≤ 30
    · have := q1 h; omega
    · have := q2 (by omega); omega
  refine ⟨⟨K1 + K2 + K4, fun k hk => ?_⟩, ⟨K3 + K5 + K6, fun k hk => ?_⟩⟩
  · simp only [spec_IsValidType.f, e1 k (by omega), e2 k (by omega), e4 k (by omega), Option.bind_some, cr, c8, isT]
    by_cases a : ndT y ≤ 30 <;> by_cases b : dpT y ≤ 8 <;> simp [a, b]
  · simp only [impl_IsValidType.f, e6 k (by omega), e3 k (by omega), e5 k (by omega), Option.bind_some, c30, c8, isT]
    by_cases a : ndT y ≤ 30 <;> by_cases b : dpT y ≤ 8 <;> simp [a, b]

theorem strOf_bytes (s : ByteArray) : strOfNums (bytesOf s) = s := by
  obtain ⟨⟨l⟩⟩ := s
  have : (bytesOf ⟨⟨l⟩⟩).map (fun n => UInt8.ofNat n.toNat) = l := by
    simp [bytesOf, List.map_map, Function.comp_def]
  unfold strOfNums
  rw [this]

theorem bytes_inj {s t : ByteArray} (h : bytesOf s = bytesOf t) : s = t := by
  rw [← strOf_bytes s, h, strOf_bytes]

theorem ext_data (s : ByteArray) (a b : Nat) : (s.extract a b).data.toList = (s.data.toList.drop a).take (b - a) := by
  obtain ⟨⟨l⟩⟩ := s
  rw [ByteArray.extract_mk]

theorem bytes_extract (s : ByteArray) (a b : Nat) : bytesOf (s.extract a b) = ((bytesOf s).drop a).take (b - a) := by
  unfold bytesOf
  rw [ext_data, List.map_take, List.map_drop]

theorem bytes_append (s t : ByteArray) : bytesOf (s ++ t) = bytesOf s ++ bytesOf t := by
  obtain ⟨⟨l⟩⟩ := s
  obtain ⟨⟨m⟩⟩ := t
  simp [bytesOf]

theorem bytes_one (m : Nat) (h : m < 10) : bytesOf (strOfNums [48 + (m : Int)]) = [48 + (m : Int)] := by
  simp [bytesOf, strOfNums]; omega

theorem toList_iff (s t : ByteArray) : s.toList = t.toList ↔ s = t := by
  constructor
  · intro h
    rw [ByteArray.toList_eq, ByteArray.toList_eq] at h
    apply bytes_inj
    unfold bytesOf
    rw [h]
  · rintro rfl; rfl

theorem lst_step {α : Type} (a b : List α) (i : Nat) (ha : i < a.length) (hb : i < b.length) : (a.drop i = b.drop i) ↔ (a[i] = b[i] ∧ a.drop (i + 1) = b.drop (i + 1)) := by
  rw [List.drop_eq_getElem_cons ha, List.drop_eq_getElem_cons hb, List.cons.injEq]

open Classical in
theorem texts_f (l m : List ByteArray) (hl : l.length ≤ 1048576) : Ev (fun k => spec_l3Texts.f k l m) (decide (l = m)) ∧ Ev (fun k => impl_sameStrings.f k l m) (decide (l = m)) := by
  by_cases hlen : l.length = m.length
  · have hz : (l.length : Int) = (m.length : Int) := by omega
    have loop : ∀ d i, i + d = l.length → ∀ k, d < k → spec_l3Texts.l0 k l m i = some (decide (l.drop i = m.drop i)) ∧ impl_sameStrings.l0 k l m (l.length : Int) i = some (decide (l.drop i = m.drop i)) := by
      intro d
      induction d with
      | zero =>
        intro i hi k hk
        obtain ⟨k, rfl⟩ := succ_of (show 0 < k by omega)
        have e : l.drop i = m.drop i := by rw [List.drop_of_length_le (by omega), List.drop_of_length_le (by omega)]
        simp (disch := omega) only [spec_l3Texts.l0, impl_sameStrings.l0, if_neg, e, decide_true, and_self]
      | succ d ih =>
        intro i hi k hk
        obtain ⟨k, rfl⟩ := succ_of (show 0 < k by omega)
        have h1 : i < l.length := by omega
        have h2 : i < m.length := by omega
        obtain ⟨e1, e2⟩ := ih (i + 1) (by omega) k (by omega)
        have es : decide (l.drop i = m.drop i) = decide (l[i] = m[i] ∧ l.drop (i + 1) = m.drop (i + 1)) := decide_eq_decide.mpr (lst_step l m i h1 h2)
        rw [es]
        simp (disch := omega) only [spec_l3Texts.l0, impl_sameStrings.l0, rd_at, if_pos, w64, cast1, e1, e2, toList_iff]
        by_cases h : l[i] = m[i] <;> simp [h]
    refine ⟨⟨l.length + 1, fun k hk => ?_⟩, ⟨l.length + 1, fun k hk => ?_⟩⟩
    · have := (loop l.length 0 (by omega) k (by omega)).1
      simp only [List.drop_zero, Int.natCast_zero] at this
      simp only [spec_l3Texts.f, if_pos hz, this]
    · have := (loop l.length 0 (by omega) k (by omega)).2
      simp only [List.drop_zero, Int.natCast_zero] at this
      simp only [impl_sameStrings.f, if_pos hz, this]
  · have hz : ¬ (l.length : Int) = (m.length : Int) := by omega
    have hn : ¬ l = m := fun h => hlen (by rw [h])
    exact ⟨⟨0, fun k hk => by simp only [spec_l3Texts.f, if_neg hz, hn, decide_false]⟩, ⟨0, fun k hk => by simp only [impl_sameStrings.f, if_neg hz, hn, decide_false]⟩⟩

/-- Where a string stands in a list; -1, if nowhere. -/
theorem idx_f (l : List ByteArray) (s : ByteArray) (hl : l.length ≤ 1048576) : ∃ r : Int, Ev (fun k => spec_IndexOf.f k l s) r ∧ Ev (fun k => impl_IndexOf.f k l s) r ∧ (r ≥ 0 → r < l.length) := by
  have loop : ∀ d i, i + d = l.length → ∃ r : Int, (∀ k, d < k → spec_IndexOf.l0 k l s i = some r ∧ impl_IndexOf.l0 k s l (l.length : Int) i = some r) ∧ (r ≥ 0 → r < l.length) := by
    intro d
    induction d with
    | zero =>
      intro i hi
      refine ⟨-1, fun k hk => ?_, by omega⟩
      obtain ⟨k, rfl⟩ := succ_of (show 0 < k by omega)
      simp (disch := omega) only [spec_IndexOf.l0, impl_IndexOf.l0, if_neg, and_self]
    | succ d ih =>
      intro i hi
      have hlt : i < l.length := by omega
      by_cases h : l[i].toList = s.toList
      · refine ⟨i, fun k hk => ?_, fun _ => by omega⟩
        obtain ⟨k, rfl⟩ := succ_of (show 0 < k by omega)
        simp (disch := omega) only [spec_IndexOf.l0, impl_IndexOf.l0, rd_at, if_pos, if_pos h, and_self]
      · obtain ⟨r, hr, hb⟩ := ih (i + 1) (by omega)
        refine ⟨r, fun k hk => ?_, hb⟩
        obtain ⟨k, rfl⟩ := succ_of (show 0 < k by omega)
        obtain ⟨r1, r2⟩ := hr k (by omega)
        simp (disch := omega) only [spec_IndexOf.l0, impl_IndexOf.l0, rd_at, if_pos, if_neg h, w64, cast1, r1, r2, and_self]
  obtain ⟨r, hr, hb⟩ := loop l.length 0 (by omega)
  exact ⟨r, ⟨l.length + 1, fun k hk => (hr k (by omega)).1⟩, ⟨l.length + 1, fun k hk => (hr k (by omega)).2⟩, hb⟩

theorem fmsV_mem (l : List S30) (h : fmsV l = true) (z : S30) (hz : z ∈ l) : fmV z = true := by
  induction l with
  | nil => simp at hz
  | cons x xs ih =>
    rw [fmsV, Bool.and_eq_true] at h
    rcases List.mem_cons.1 hz with rfl | hz
    · exact h.1
    · exact ih h.2 hz

theorem fmsT_mem (l : List S44) (h : fmsT l = true) (z : S44) (hz : z ∈ l) : fmT z = true := by
  induction l with
  | nil => simp at hz
  | cons x xs ih =>
    rw [fmsT, Bool.and_eq_true] at h
    rcases List.mem_cons.1 hz with rfl | hz
    · exact h.1
    · exact ih h.2 hz

theorem hasT_f (t : S44) (st : SmT t) : fmT t = true → ∀ y : S30, SmV y → fmV y = true → ∃ r, Ev (fun k => spec_l5Has.f k y.f0 y.f1 y.f2 y.f3 y.f4 t.f0 t.f1 t.f2) r ∧ Ev (fun k => impl_ofType.f k y.f0 y.f1 y.f2 y.f3 y.f4 t.f0 t.f1 t.f2) r := by
  induction st with
  | mk t h0 h1 h3 h4 ih =>
    intro hft y sy hfy
    rw [fmT_eq, Bool.and_eq_true] at hft
    obtain ⟨hfs, hl⟩ := hft
    rw [fmV_eq, Bool.and_eq_true] at hfy
    obtain ⟨gfs, gl⟩ := hfy
    cases sy with
    | mk _ g0 g1 g2 g3 g4 g5 =>
    unfold lfT at hl
    unfold lfV qV at gl
    simp only [Bool.and_eq_true] at gl
    obtain ⟨⟨gq, gn⟩, gb⟩ := gl
    have part : ∀ (i j : Nat) (hi : i < y.f4.length) (hj : j < t.f2.length), ∃ r, Ev (fun k => spec_l5Has.f k y.f4[i].f0 y.f4[i].f1 y.f4[i].f2 y.f4[i].f3 y.f4[i].f4 t.f2[j].f0 t.f2[j].f1 t.f2[j].f2) r ∧ Ev (fun k => impl_ofType.f k y.f4[i].f0 y.f4[i].f1 y.f4[i].f2 y.f4[i].f3 y.f4[i].f4 t.f2[j].f0 t.f2[j].f1 t.f2[j].f2) r :=
      fun i j hi hj => ih _ (List.getElem_mem hj) (fmsT_mem _ hfs _ (List.getElem_mem hj)) _ (g5 _ (List.getElem_mem hi)) (fmsV_mem _ gfs _ (List.getElem_mem hi))
    by_cases t1 : t.f0 = 1
    · refine ⟨y.f0 == 1, ⟨1, fun k hk => ?_⟩, ⟨1, fun k hk => ?_⟩⟩ <;> obtain ⟨k, rfl⟩ := succ_of (show 0 < k by omega)
      · simp only [spec_l5Has.f, if_pos t1]
      · simp only [impl_ofType.f, if_pos t1]
    by_cases t2 : t.f0 = 2
    · refine ⟨y.f0 == 2, ⟨1, fun k hk => ?_⟩, ⟨1, fun k hk => ?_⟩⟩ <;> obtain ⟨k, rfl⟩ := succ_of (show 0 < k by omega)
      · simp only [spec_l5Has.f, if_neg t1, if_pos t2]
      · simp only [impl_ofType.f, if_neg t1, if_pos t2]
    by_cases t3 : t.f0 = 3
    · by_cases y3 : y.f0 = 3
      · obtain ⟨⟨K1, e1⟩, ⟨K2, e2⟩⟩ := texts_f y.f3 t.f1 g3.1
        by_cases hs : y.f3 = t.f1
        · have n1 : ¬ y.f0 = 1 := by omega
          have n2 : ¬ y.f0 = 2 := by omega
          rw [if_neg n1, if_neg n2, if_pos y3] at gq
          simp only [Bool.and_eq_true, decide_eq_true_eq] at gq
          rw [if_neg (by omega), if_pos (by omega)] at hl
          simp only [Bool.and_eq_true, decide_eq_true_eq] at hl
          have hlen : y.f4.length = t.f2.length := by rw [← gq.2.1, hs, hl.1]
          have loop : ∀ d i, i + d = y.f4.length → ∃ r, Ev (fun k => spec_l5Has.l0 k i y.f0 y.f1 y.f2 y.f3 y.f4 t.f0 t.f1 t.f2) r ∧ Ev (fun k => impl_ofType.l0 k y.f4 (y.f4.length : Int) i t.f0 t.f1 t.f2) r := by
            intro d
            induction d with
            | zero =>
              intro i hi
              refine ⟨true, ⟨1, fun k hk => ?_⟩, ⟨1, fun k hk => ?_⟩⟩ <;> obtain ⟨k, rfl⟩ := succ_of (show 0 < k by omega)
              · simp (disch := omega) only [spec_l5Has.l0, if_neg]
              · simp (disch := omega) only [impl_ofType.l0, if_neg]
            | succ d ihd =>
              intro i hi
              have b1 : i < y.f4.length := by omega
              have b2 : i < t.f2.length := by omega
              obtain ⟨r1, ⟨K3, e3⟩, ⟨K4, e4⟩⟩ := part i i b1 b2
              obtain ⟨r2, ⟨K5, e5⟩, ⟨K6, e6⟩⟩ := ihd (i + 1) (by omega)
              refine ⟨if r1 = true then r2 else false, ⟨K3 + K5 + 1, fun k hk => ?_⟩, ⟨K4 + K6 + 1, fun k hk => ?_⟩⟩ <;> obtain ⟨k, rfl⟩ := succ_of (show 0 < k by omega)
              · simp (disch := omega) only [spec_l5Has.l0, rdIV, rdIT, if_pos, e3, Option.bind_some, w64, cast1, e5]
                cases r1 <;> simp
              · simp (disch := omega) only [impl_ofType.l0, rdIV, rdIT, if_pos, e4, Option.bind_some, w64, cast1, e6]
                cases r1 <;> simp
          obtain ⟨r, ⟨K3, e3⟩, ⟨K4, e4⟩⟩ := loop y.f4.length 0 (by omega)
          simp only [Int.natCast_zero] at e3 e4
          refine ⟨r, ⟨K1 + K3 + 2, fun k hk => ?_⟩, ⟨K2 + K4 + 2, fun k hk => ?_⟩⟩ <;> obtain ⟨k, rfl⟩ : ∃ m, k = m + 2 := ⟨k - 2, by omega⟩
          · have e1' := e1 (k + 1) (by omega)
            have e3' := e3 k (by omega)
            rw [decide_eq_true hs] at e1'
            simp only [spec_l5Has.f, if_neg t1, if_neg t2, if_pos t3, if_pos y3, e1', Option.bind_some, Bool.not_true, spec_l5Has.j0, Bool.false_eq_true, if_false]
            exact e3'
          · have e2' := e2 (k + 1) (by omega)
            have e4' := e4 k (by omega)
            rw [decide_eq_true hs] at e2'
            simp only [impl_ofType.f, if_neg t1, if_neg t2, if_pos t3, if_pos y3, e2', Option.bind_some, Bool.not_true, impl_ofType.j0, Bool.false_eq_true, if_false]
            exact e4'
        · refine ⟨false, ⟨K1 + 2, fun k hk => ?_⟩, ⟨K2 + 2, fun k hk => ?_⟩⟩ <;> obtain ⟨k, rfl⟩ : ∃ m, k = m + 2 := ⟨k - 2, by omega⟩
          · have e1' := e1 (k + 1) (by omega)
            rw [decide_eq_false hs] at e1'
            simp only [spec_l5Has.f, if_neg t1, if_neg t2, if_pos t3, if_pos y3, e1', Option.bind_some, Bool.not_false, spec_l5Has.j0, if_true]
          · have e2' := e2 (k + 1) (by omega)
            rw [decide_eq_false hs] at e2'
            simp only [impl_ofType.f, if_neg t1, if_neg t2, if_pos t3, if_pos y3, e2', Option.bind_some, Bool.not_false, impl_ofType.j0, if_true]
      · refine ⟨false, ⟨2, fun k hk => ?_⟩, ⟨2, fun k hk => ?_⟩⟩ <;> obtain ⟨k, rfl⟩ : ∃ m, k = m + 2 := ⟨k - 2, by omega⟩
        · simp only [spec_l5Has.f, if_neg t1, if_neg t2, if_pos t3, if_neg y3, spec_l5Has.j0, if_true]
        · simp only [impl_ofType.f, if_neg t1, if_neg t2, if_pos t3, if_neg y3, impl_ofType.j0, if_true]
    by_cases t4 : t.f0 = 4
    · obtain ⟨x, ⟨K1, e1⟩, ⟨K2, e2⟩, hx⟩ := idx_f t.f1 y.f2 h1.1
      by_cases y4 : y.f0 = 4
      · by_cases hx0 : x ≥ 0
        · have n1 : ¬ y.f0 = 1 := by omega
          have n2 : ¬ y.f0 = 2 := by omega
          have n3 : ¬ y.f0 = 3 := by omega
          rw [if_neg n1, if_neg n2, if_neg n3, if_pos y4] at gq
          simp only [Bool.and_eq_true, decide_eq_true_eq] at gq
          rw [if_neg (by omega), if_pos (by omega)] at hl
          simp only [Bool.and_eq_true, decide_eq_true_eq] at hl
          have hxl := hx hx0
          obtain ⟨n, rfl⟩ : ∃ n : Nat, x = n := ⟨x.toNat, by omega⟩
          have b1 : 0 < y.f4.length := by omega
          have b2 : n < t.f2.length := by omega
          have b2' : (n : Int) < (t.f2.length : Int) := by omega
          have b1' : (0 : Int) < (y.f4.length : Int) := by omega
          have z0 := rdIV y.f4 0 b1
          have z1 := rdIT t.f2 n b2
          simp only [Int.natCast_zero] at z0
          obtain ⟨r, ⟨K3, e3⟩, ⟨K4, e4⟩⟩ := part 0 n b1 b2
          refine ⟨r, ⟨K1 + K3 + 1, fun k hk => ?_⟩, ⟨K2 + K4 + 1, fun k hk => ?_⟩⟩ <;> obtain ⟨k, rfl⟩ := succ_of (show 0 < k by omega)
          · simp only [spec_l5Has.f, if_neg t1, if_neg t2, if_neg t3, if_pos t4, e1 k (by omega), Option.bind_some, if_pos y4, if_pos hx0, if_pos b1', if_pos (show (0 : Int) ≤ (n : Int) from hx0), if_pos b2', z0, z1, e3 k (by omega)]
          · simp only [impl_ofType.f, if_neg t1, if_neg t2, if_neg t3, if_pos t4, e2 k (by omega), Option.bind_some, if_pos y4, if_pos hx0, if_pos b1', if_pos (show (0 : Int) ≤ (n : Int) from hx0), if_pos b2', z0, z1, e4 k (by omega)]
        · refine ⟨false, ⟨K1 + 1, fun k hk => ?_⟩, ⟨K2 + 1, fun k hk => ?_⟩⟩ <;> obtain ⟨k, rfl⟩ := succ_of (show 0 < k by omega)
          · simp only [spec_l5Has.f, if_neg t1, if_neg t2, if_neg t3, if_pos t4, e1 k (by omega), Option.bind_some, if_pos y4, if_neg hx0]
          · simp only [impl_ofType.f, if_neg t1, if_neg t2, if_neg t3, if_pos t4, e2 k (by omega), Option.bind_some, if_pos y4, if_neg hx0]
      · refine ⟨false, ⟨K1 + 1, fun k hk => ?_⟩, ⟨K2 + 1, fun k hk => ?_⟩⟩ <;> obtain ⟨k, rfl⟩ := succ_of (show 0 < k by omega)
        · simp only [spec_l5Has.f, if_neg t1, if_neg t2, if_neg t3, if_pos t4, e1 k (by omega), Option.bind_some, if_neg y4]
        · simp only [impl_ofType.f, if_neg t1, if_neg t2, if_neg t3, if_pos t4, e2 k (by omega), Option.bind_some, if_neg y4]
    · rw [if_neg (by omega), if_neg (by omega)] at hl
      by_cases t5 : t.f0 = 5
      · rw [if_pos t5] at hl
        simp only [Bool.and_eq_true, decide_eq_true_eq] at hl
        have b2 : 0 < t.f2.length := by omega
        have b2' : (0 : Int) < (t.f2.length : Int) := by omega
        have z1 := rdIT t.f2 0 b2
        simp only [Int.natCast_zero] at z1
        by_cases y5 : y.f0 = 5
        · have q5 : (y.f0 == 5) = true := by simp [y5]
          have loop : ∀ d i, i + d = y.f4.length → ∃ r, Ev (fun k => spec_l5Has.l1 k i y.f0 y.f1 y.f2 y.f3 y.f4 t.f0 t.f1 t.f2) r ∧ Ev (fun k => impl_ofType.l1 k y.f4 (y.f4.length : Int) i t.f0 t.f1 t.f2) r := by
            intro d
            induction d with
            | zero =>
              intro i hi
              refine ⟨true, ⟨2, fun k hk => ?_⟩, ⟨1, fun k hk => ?_⟩⟩
              · obtain ⟨k, rfl⟩ : ∃ m, k = m + 2 := ⟨k - 2, by omega⟩
                simp (disch := omega) only [spec_l5Has.l1, spec_l5Has.j3, if_neg, q5, Bool.false_eq_true, if_false]
              · obtain ⟨k, rfl⟩ := succ_of (show 0 < k by omega)
                simp (disch := omega) only [impl_ofType.l1, if_neg]
            | succ d ihd =>
              intro i hi
              have b1 : i < y.f4.length := by omega
              obtain ⟨r1, ⟨K3, e3⟩, ⟨K4, e4⟩⟩ := part i 0 b1 b2
              obtain ⟨r2, ⟨K5, e5⟩, ⟨K6, e6⟩⟩ := ihd (i + 1) (by omega)
              refine ⟨if r1 = true then r2 else false, ⟨K3 + K5 + 2, fun k hk => ?_⟩, ⟨K4 + K6 + 1, fun k hk => ?_⟩⟩
              · obtain ⟨k, rfl⟩ : ∃ m, k = m + 2 := ⟨k - 2, by omega⟩
                have e3' := e3 k (by omega)
                have e5' := e5 k (by omega)
                simp (disch := omega) only [spec_l5Has.l1, if_pos, q5]
                simp only [spec_l5Has.j3]
                simp (disch := omega) only [rdIV, z1, if_true, if_pos, e3', Option.bind_some, w64, cast1, e5']
                cases r1 <;> simp
              · obtain ⟨k, rfl⟩ := succ_of (show 0 < k by omega)
                have e4' := e4 k (by omega)
                have e6' := e6 k (by omega)
                simp (disch := omega) only [impl_ofType.l1, rdIV, z1, if_pos, e4', Option.bind_some, w64, cast1, e6']
                cases r1 <;> simp
          obtain ⟨r, ⟨K3, e3⟩, ⟨K4, e4⟩⟩ := loop y.f4.length 0 (by omega)
          simp only [Int.natCast_zero] at e3 e4
          refine ⟨r, ⟨K3 + 1, fun k hk => ?_⟩, ⟨K4 + 1, fun k hk => ?_⟩⟩ <;> obtain ⟨k, rfl⟩ := succ_of (show 0 < k by omega)
          · simp only [spec_l5Has.f, if_neg t1, if_neg t2, if_neg t3, if_neg t4, e3 k (by omega)]
          · simp only [impl_ofType.f, if_neg t1, if_neg t2, if_neg t3, if_neg t4, if_pos y5, e4 k (by omega)]
        · have q5 : (y.f0 == 5) = false := by simp [y5]
          refine ⟨false, ⟨3, fun k hk => ?_⟩, ⟨1, fun k hk => ?_⟩⟩
          · obtain ⟨k, rfl⟩ : ∃ m, k = m + 3 := ⟨k - 3, by omega⟩
            simp only [spec_l5Has.f, if_neg t1, if_neg t2, if_neg t3, if_neg t4, spec_l5Has.l1, spec_l5Has.j3, q5, ite_self, Bool.false_eq_true, if_false]
          · obtain ⟨k, rfl⟩ := succ_of (show 0 < k by omega)
            simp only [impl_ofType.f, if_neg t1, if_neg t2, if_neg t3, if_neg t4, if_neg y5]
      · rw [if_neg t5] at hl; simp at hl

theorem hasTypeV_f (y : S30) (sy : SmV y) (hn : ndV y ≤ 1048577) (t : S44) (st : SmT t) (hn' : ndT t ≤ 1048577) : ∃ r, Ev (fun k => spec_HasType.f k y.f0 y.f1 y.f2 y.f3 y.f4 t.f0 t.f1 t.f2) r ∧ Ev (fun k => impl_HasType.f k y.f0 y.f1 y.f2 y.f3 y.f4 t.f0 t.f1 t.f2) r := by
  obtain ⟨⟨K1, e1⟩, ⟨K2, e2⟩⟩ := isV_f y sy hn
  obtain ⟨⟨K3, e3⟩, ⟨K4, e4⟩⟩ := isT_f t st hn'
  by_cases h : isV y = true
  · by_cases h' : isT t = true
    · have a := h
      have b := h'
      unfold isV at a
      unfold isT at b
      simp only [Bool.and_eq_true] at a b
      obtain ⟨r, ⟨K5, e5⟩, ⟨K6, e6⟩⟩ := hasT_f t st b.2.2 y sy a.2
      exact ⟨r, ⟨K1 + K3 + K5, fun k hk => by simp only [spec_HasType.f, e1 k (by omega), e3 k (by omega), e5 k (by omega), Option.bind_some, h, h', if_true]⟩, ⟨K2 + K4 + K6, fun k hk => by simp only [impl_HasType.f, e2 k (by omega), e4 k (by omega), e6 k (by omega), Option.bind_some, h, h', if_true]⟩⟩
    · exact ⟨false, ⟨K1 + K3, fun k hk => by simp only [spec_HasType.f, e1 k (by omega), e3 k (by omega), Option.bind_some, h, if_true, if_neg h']⟩, ⟨K2 + K4, fun k hk => by simp only [impl_HasType.f, e2 k (by omega), e4 k (by omega), Option.bind_some, h, if_true, if_neg h']⟩⟩
  · exact ⟨false, ⟨K1, fun k hk => by simp only [spec_HasType.f, e1 k (by omega), Option.bind_some, if_neg h]⟩, ⟨K2, fun k hk => by simp only [impl_HasType.f, e2 k (by omega), Option.bind_some, if_neg h]⟩⟩

theorem FnExactHasType (x0 : S25) (o0 : Ok25 x0) (x1 : S39) (o1 : Ok39 x1) : ∃ k, laws_FnExactHasType.f k x0.f0 x0.f1 x0.f2 x0.f3 x0.f4 x1.f0 x1.f1 x1.f2 = some true := by
  obtain ⟨r, ⟨K1, h1⟩, h⟩ := szV_to x0 o0 1048576 (by omega) (by omega)
  rcases h with h | ⟨h, y, sm, ⟨K2, h2⟩, hn⟩
  · have e1 := h1 K1 (by omega)
    exact ⟨K1, by simp only [laws_FnExactHasType.f, e1, Option.bind_some, if_pos h]⟩
  · have hp := ndV_eq y
    obtain ⟨r', ⟨K3, h3⟩, h'⟩ := szT_to x1 o1 r h (by omega)
    rcases h' with h' | ⟨h', z, sm', ⟨K4, h4⟩, hn'⟩
    · have e1 := h1 (K1 + K3) (by omega)
      have e3 := h3 (K1 + K3) (by omega)
      have g : ¬ r < 0 := by omega
      exact ⟨K1 + K3, by simp only [laws_FnExactHasType.f, e1, e3, Option.bind_some, if_neg g, if_pos h']⟩
    · have hp' := ndT_eq z
      obtain ⟨v, ⟨K5, h5⟩, ⟨K6, h6⟩⟩ := hasTypeV_f y sm (by omega) z sm' (by omega)
      obtain ⟨K7, h7⟩ := eqV_self y sm
      obtain ⟨K8, h8⟩ := eqT_self z sm'
      have e1 := h1 (K1 + K2 + K3 + K4 + K5 + K6 + K7 + K8) (by omega)
      have e2 := h2 (K1 + K2 + K3 + K4 + K5 + K6 + K7 + K8) (by omega)
      have e3 := h3 (K1 + K2 + K3 + K4 + K5 + K6 + K7 + K8) (by omega)
      have e4 := h4 (K1 + K2 + K3 + K4 + K5 + K6 + K7 + K8) (by omega)
      have e5 := h5 (K1 + K2 + K3 + K4 + K5 + K6 + K7 + K8) (by omega)
      have e6 := h6 (K1 + K2 + K3 + K4 + K5 + K6 + K7 + K8) (by omega)
      have e7 := h7 (K1 + K2 + K3 + K4 + K5 + K6 + K7 + K8) (by omega)
      have e8 := h8 (K1 + K2 + K3 + K4 + K5 + K6 + K7 + K8) (by omega)
      have g : ¬ r < 0 := by omega
      have g' : ¬ r' < 0 := by omega
      refine ⟨K1 + K2 + K3 + K4 + K5 + K6 + K7 + K8, ?_⟩
      simp only [laws_FnExactHasType.f, e1, e2, e3, e4, e5, e6, e7, e8, Option.bind_some, if_neg g, if_neg g', if_true, bne_self_eq_false, Bool.false_eq_true, if_false]

end Go.Proofs.Ytmelflbbeecjfaa.Pure
