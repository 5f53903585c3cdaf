/- The program's EqualValue answers as the reference's and leaves its arguments alone, for every two values: no condition. -/
import Derived.Test.YtmelflbbeecjfaaXAx8
import Derived.Test.YtmelflbbeecjfaaXAxk
namespace Go.Proofs.Ytmelflbbeecjfaa.Pure
open Go.RowKit Go.Proofs.Ytmelflbbeecjfaa.XA Go.Proofs.YtmelflbbeecjfaaW.PrintWords Go.Proofs.YtmelflbbeecjfaaW.PrintLast

set_option linter.unusedSimpArgs false
set_option linter.unusedVariables false

theorem w64 {n : Int} (h : -9223372036854775808 ≤ n) (h' : n ≤ 9223372036854775807) : wrap64 n = n := by unfold wrap64; omega
theorem cast1 (i : Nat) : (i : Int) + 1 = ((i + 1 : Nat) : Int) := by omega
theorem succ_of {d k : Nat} (h : d < k) : ∃ m, k = m + 1 := ⟨k - 1, by omega⟩

theorem rd_at (l : List ByteArray) (i : Nat) (h : i < l.length) : rdOf ByteArray.empty l (i : Int) = l[i] := by
  simp [rdOf, h]

/-- How many bytes the strings have together. -/
def tot (l : List ByteArray) : Nat := (l.map ByteArray.size).sum

theorem tot_cons (p : ByteArray) (l : List ByteArray) : tot (p :: l) = p.size + tot l := by simp only [tot, List.map_cons, List.sum_cons]

theorem tot_drop (l : List ByteArray) (i : Nat) (h : i < l.length) : tot (l.drop i) = l[i].size + tot (l.drop (i + 1)) := by
  rw [List.drop_eq_getElem_cons h, tot_cons]

theorem sz_loop (l : List ByteArray) (hl : l.length ≤ maxLen) (hs : ∀ s ∈ l, s.size ≤ maxLen) (d : Nat) : ∀ (i : Nat) (left : Int), i + d = l.length → 0 ≤ left → left ≤ 1048576 →
    ∃ r, (∀ k, d < k → laws_szStringS.l0 k l left i = some r) ∧ (r < 0 ∨ 0 ≤ r ∧ (tot (l.drop i) : Int) + r = left) := by
  simp only [maxLen] at hl hs
  induction d with
  | zero =>
    intro i left hi h0 h1
    refine ⟨left, fun k hk => ?_, .inr ⟨h0, ?_⟩⟩
    · obtain ⟨k, rfl⟩ := succ_of hk
      simp (disch := omega) only [laws_szStringS.l0, if_neg]
    · rw [List.drop_of_length_le (by omega)]; simp [tot]
  | succ d ih =>
    intro i left hi h0 h1
    have hlt : i < l.length := by omega
    have hz := hs l[i] (List.getElem_mem hlt)
    by_cases hneg : left - (l[i].size : Int) < 0
    · refine ⟨-1, fun k hk => ?_, .inl (by omega)⟩
      obtain ⟨k, rfl⟩ := succ_of hk
      simp (disch := omega) only [laws_szStringS.l0, rd_at, w64, if_pos]
    · obtain ⟨r, h2, h3⟩ := ih (i + 1) (left - (l[i].size : Int)) (by omega) (by omega) (by omega)
      refine ⟨r, fun k hk => ?_, ?_⟩
      · obtain ⟨k, rfl⟩ := succ_of hk
        simp (disch := omega) only [laws_szStringS.l0, rd_at, w64, if_pos, if_neg, cast1]
        exact h2 k (by omega)
      · rcases h3 with h3 | ⟨h3, h4⟩
        · exact .inl h3
        · refine .inr ⟨h3, ?_⟩
          rw [tot_drop l i hlt]; omega

theorem sz_g (l : List ByteArray) (hl : l.length ≤ maxLen) (hs : ∀ s ∈ l, s.size ≤ maxLen) (left : Int) (g0 : 0 ≤ left) (g1 : left ≤ 1048576) :
    ∃ r, (∀ k, l.length < k → laws_szStringS.f k l left = some r) ∧ (r < 0 ∨ 0 ≤ r ∧ (l.length : Int) + tot l + r = left) := by
  have hl' := hl
  simp only [maxLen] at hl'
  by_cases hneg : left - (l.length : Int) < 0
  · refine ⟨-1, fun k _ => ?_, .inl (by omega)⟩
    simp (disch := omega) only [laws_szStringS.f, w64, if_pos]
  · obtain ⟨r, h2, h3⟩ := sz_loop l hl hs l.length 0 (left - (l.length : Int)) (by omega) (by omega) (by omega)
    refine ⟨r, fun k hk => ?_, ?_⟩
    · simp (disch := omega) only [laws_szStringS.f, w64, if_neg]; exact h2 k hk
    · rcases h3 with h3 | ⟨h3, h4⟩
      · exact .inl h3
      · refine .inr ⟨h3, ?_⟩
        rw [List.drop_zero] at h4; omega

theorem sz_f (l : List ByteArray) (hl : l.length ≤ maxLen) (hs : ∀ s ∈ l, s.size ≤ maxLen) :
    ∃ r, (∀ k, l.length < k → laws_szStringS.f k l 1048576 = some r) ∧ (r < 0 ∨ 0 ≤ r ∧ l.length + tot l ≤ 1048576) := by
  obtain ⟨r, h1, h2⟩ := sz_g l hl hs 1048576 (by omega) (by omega)
  refine ⟨r, h1, ?_⟩
  rcases h2 with h2 | ⟨h2, h3⟩
  · exact .inl h2
  · exact .inr ⟨h2, by omega⟩

theorem tot_mem (r : List ByteArray) (p : ByteArray) (h : p ∈ r) : p.size ≤ tot r := by
  induction r with
  | nil => simp at h
  | cons q r ih =>
    have e := tot_cons q r
    rcases List.mem_cons.1 h with rfl | h
    · omega
    · have := ih h; omega

theorem to_loop (l : List ByteArray) (hl : l.length ≤ 1048576) (d : Nat) : ∀ (i k : Nat), i + d = l.length → d < k →
    laws_toStringS.l0 k l (l.take i ++ List.replicate d (⟨#[]⟩ : ByteArray)) i = some l := by
  induction d with
  | zero =>
    intro i k hi hk
    obtain ⟨k, rfl⟩ := succ_of hk
    simp (disch := omega) only [laws_toStringS.l0, if_neg]
    rw [List.take_of_length_le (by omega)]; simp
  | succ d ih =>
    intro i k hi hk
    obtain ⟨k, rfl⟩ := succ_of hk
    have hlt : i < l.length := by omega
    have hq : (i : Int) < ((l.take i ++ List.replicate (d + 1) (⟨#[]⟩ : ByteArray)).length : Int) := by simp; omega
    have e : (l.take i ++ List.replicate (d + 1) (⟨#[]⟩ : ByteArray)).set i l[i] = l.take (i + 1) ++ List.replicate d (⟨#[]⟩ : ByteArray) := by
      have ht : (l.take i).length = i := by rw [List.length_take]; omega
      rw [List.set_append_right _ _ (by omega), ht, Nat.sub_self, List.replicate_succ, List.set_cons_zero, List.take_succ_eq_append_getElem hlt, List.append_assoc]; rfl
    simp (disch := omega) only [laws_toStringS.l0, rd_at, w64, if_pos, cast1, Int.toNat_natCast, if_pos hq, e]
    exact ih (i + 1) k (by omega) (by omega)

theorem to_f (l : List ByteArray) (hl : l.length ≤ 1048576) (k : Nat) (hk : l.length < k) : laws_toStringS.f k l = some l := by
  simp (disch := omega) only [laws_toStringS.f, if_pos]
  have := to_loop l hl l.length 0 k (by omega) hk
  simpa using this

theorem eq_loop (l : List ByteArray) (hl : l.length ≤ 1099511627776) (d : Nat) : ∀ (i k : Nat), i + d = l.length → d < k → laws_eqStringS.l0 k l l i = some true := by
  induction d with
  | zero =>
    intro i k hi hk
    obtain ⟨k, rfl⟩ := succ_of hk
    simp (disch := omega) only [laws_eqStringS.l0, if_neg]
  | succ d ih =>
    intro i k hi hk
    obtain ⟨k, rfl⟩ := succ_of hk
    simp (disch := omega) only [laws_eqStringS.l0, if_pos, w64, cast1, if_true]
    exact ih (i + 1) k (by omega) (by omega)

theorem eq_f (l : List ByteArray) (hl : l.length ≤ 1099511627776) (k : Nat) (hk : l.length < k) : laws_eqStringS.f k l l = some true := by
  simp only [laws_eqStringS.f, if_true]
  exact eq_loop l hl l.length 0 k (by omega) hk

theorem rdIV (l : List S30) (i : Nat) (h : i < l.length) : rd_T30 l (i : Int) = l[i] := by simp [rd_T30, h]
theorem rdLV (l : List S25) (i : Nat) (h : i < l.length) : rd_T25 l (i : Int) = l[i] := by simp [rd_T25, h]

mutual
/-- How many values it holds, itself among them. -/
def ndV : S30 → Nat
  | ⟨_, _, _, _, l⟩ => ndsV l + 1
def ndsV : List S30 → Nat
  | [] => 0
  | x :: xs => ndV x + ndsV xs
end

theorem ndV_eq (y : S30) : ndV y = ndsV y.f4 + 1 := by cases y; simp only [ndV]
theorem ndsV_drop (l : List S30) (i : Nat) (h : i < l.length) : ndsV (l.drop i) = ndV l[i] + ndsV (l.drop (i + 1)) := by
  rw [List.drop_eq_getElem_cons h, ndsV]
theorem ndsV_len (l : List S30) : l.length ≤ ndsV l := by
  induction l with
  | nil => simp [ndsV]
  | cons x xs ih => have := ndV_eq x; simp only [ndsV, List.length_cons]; omega
theorem ndsV_mem (l : List S30) (z : S30) (h : z ∈ l) : ndV z ≤ ndsV l := by
  induction l with
  | nil => simp at h
  | cons x xs ih =>
    simp only [ndsV]
    rcases List.mem_cons.1 h with rfl | h
    · omega
    · have := ih h; omega

/-- Within bounds, all the way down. -/
inductive SmV : S30 → Prop
  | mk (y : S30) (h0 : -9223372036854775808 ≤ y.f0 ∧ y.f0 ≤ 9223372036854775807) (h1 : -9223372036854775808 ≤ y.f1 ∧ y.f1 ≤ 9223372036854775807) (h2 : y.f2.size ≤ 1048576) (h3 : y.f3.length ≤ 1048576 ∧ ∀ s ∈ y.f3, s.size ≤ 1048576) (h4 : y.f4.length ≤ 1048576) (h5 : ∀ z ∈ y.f4, SmV z) : SmV y

theorem wf64V {n : Int} (h : (Lit.int .i64 n).wf = true) : -9223372036854775808 ≤ n ∧ n ≤ 9223372036854775807 := by
  simpa [Lit.wf, IntKind.min, IntKind.max, IntKind.signed, IntKind.bits] using h

theorem szV_to (x : S25) (ok : Ok25 x) : ∀ left : Int, 0 ≤ left → left ≤ 1048576 →
    ∃ r, Ev (fun k => laws_szValue.f k x.f0 x.f1 x.f2 x.f3 x.f4 left) r ∧ (r < 0 ∨ 0 ≤ r ∧ ∃ y, SmV y ∧ Ev (fun k => laws_toValue.f k x.f0 x.f1 x.f2 x.f3 x.f4) (y.f0, y.f1, y.f2, y.f3, y.f4) ∧ (ndV y : Int) + r ≤ left + 1) := by
  induction ok with
  | mk x h0 h1 h2 h3 h4 h5 h6 ih =>
    intro left hl0 hl1
    have bl := h5
    simp only [maxLen] at bl
    have bn := h2
    simp only [maxLen] at bn
    by_cases hneg : left - (x.f2.size : Int) < 0
    · refine ⟨-1, ⟨1, fun k hk => ?_⟩, .inl (by omega)⟩
      obtain ⟨k, rfl⟩ := succ_of (show 0 < k by omega)
      simp (disch := omega) only [laws_szValue.f, w64, if_pos]
    have bneg : 0 ≤ left - (x.f2.size : Int) := by omega
    obtain ⟨rs, e0, q0⟩ := sz_g x.f3 h3 h4 (left - (x.f2.size : Int)) (by omega) (by omega)
    rcases q0 with q0 | ⟨q0, q1⟩
    · refine ⟨-1, ⟨x.f3.length + 2, fun k hk => ?_⟩, .inl (by omega)⟩
      obtain ⟨k, rfl⟩ := succ_of (show 0 < k by omega)
      have e0' := e0 k (by omega)
      simp (disch := omega) only [laws_szValue.f, w64, if_neg, e0', Option.bind_some, if_pos]
    by_cases hneg2 : rs - (x.f4.length : Int) < 0
    · refine ⟨-1, ⟨x.f3.length + 3, fun k hk => ?_⟩, .inl (by omega)⟩
      obtain ⟨k, rfl⟩ : ∃ m, k = m + 2 := ⟨k - 2, by omega⟩
      have e0' := e0 (k + 1) (by omega)
      simp (disch := omega) only [laws_szValue.f, laws_szValueS.f, w64, e0', if_pos, if_neg, Option.bind_some]
    have loop : ∀ d i (left : Int), i + d = x.f4.length → 0 ≤ left → left ≤ 1048576 → ∃ r, Ev (fun k => laws_szValueS.l0 k x.f4 left i) r ∧ (r < 0 ∨ 0 ≤ r ∧ ∃ ys : List S30, ys.length = d ∧ (∀ z ∈ ys, SmV z) ∧ (ndsV ys : Int) + r ≤ left + d ∧
        ∀ p : List S30, p.length = i → Ev (fun k => laws_toValueS.l0 k x.f4 (p ++ List.replicate d z30) i) (p ++ ys)) := by
      intro d
      induction d with
      | zero =>
        intro i left hi g0 g1
        refine ⟨left, ⟨1, fun k hk => ?_⟩, .inr ⟨g0, [], rfl, by simp, by simp [ndsV], fun p hp => ⟨1, fun k hk => ?_⟩⟩⟩ <;> obtain ⟨k, rfl⟩ := succ_of (show 0 < k by omega)
        · simp (disch := omega) only [laws_szValueS.l0, if_neg]
        · simp (disch := omega) only [laws_toValueS.l0, if_neg]; simp
      | succ d ihd =>
        intro i left hi g0 g1
        have hlt : i < x.f4.length := by omega
        obtain ⟨r1, ⟨K1, e1⟩, hr1⟩ := ih x.f4[i] (List.getElem_mem hlt) left g0 g1
        rcases hr1 with hr1 | ⟨hr1, y, sm, ⟨K2, e2⟩, hn⟩
        · refine ⟨-1, ⟨K1 + 1, fun k hk => ?_⟩, .inl (by omega)⟩
          obtain ⟨k, rfl⟩ := succ_of (show 0 < k by omega)
          simp (disch := omega) only [laws_szValueS.l0, rdLV, if_pos, e1, Option.bind_some]
        · have hy := ndV_eq y
          obtain ⟨r, ⟨K3, e3⟩, hr⟩ := ihd (i + 1) r1 (by omega) hr1 (by omega)
          refine ⟨r, ⟨K1 + K3 + 1, fun k hk => ?_⟩, ?_⟩
          · obtain ⟨k, rfl⟩ := succ_of (show 0 < k by omega)
            simp (disch := omega) only [laws_szValueS.l0, rdLV, if_pos, if_neg, e1, Option.bind_some, w64, cast1, e3]
          · rcases hr with hr | ⟨hr, ys, hlen, hsm, hnd, hto⟩
            · exact .inl hr
            · refine .inr ⟨hr, y :: ys, by simp [hlen], ?_, ?_, fun p hp => ?_⟩
              · intro z hz
                rcases List.mem_cons.1 hz with rfl | hz
                · exact sm
                · exact hsm z hz
              · simp only [ndsV]; omega
              · obtain ⟨K4, e4⟩ := hto (p ++ [y]) (by simp [hp])
                refine ⟨K2 + K4 + 1, fun k hk => ?_⟩
                obtain ⟨k, rfl⟩ := succ_of (show 0 < k by omega)
                have hq : (i : Int) < ((p ++ List.replicate (d + 1) z30).length : Int) := by simp; omega
                have es : (p ++ List.replicate (d + 1) z30).set i y = (p ++ [y]) ++ List.replicate d z30 := by
                  rw [List.set_append_right _ _ (by omega), hp, Nat.sub_self, List.replicate_succ, List.set_cons_zero, List.append_assoc]; rfl
                have ey : (⟨y.f0, y.f1, y.f2, y.f3, y.f4⟩ : S30) = y := by cases y; rfl
                simp (disch := omega) only [laws_toValueS.l0, rdLV, if_pos, e2, Option.bind_some, w64, cast1, Int.toNat_natCast, if_pos hq, ey, es, e4]
                simp
    obtain ⟨r, ⟨K1, e1⟩, hr⟩ := loop x.f4.length 0 (rs - (x.f4.length : Int)) (by omega) (by omega) (by omega)
    rcases hr with hr | ⟨hr, ys, hlen, hsm, hnd, hto⟩
    · refine ⟨-1, ⟨K1 + x.f3.length + 3, fun k hk => ?_⟩, .inl (by omega)⟩
      obtain ⟨k, rfl⟩ : ∃ m, k = m + 2 := ⟨k - 2, by omega⟩
      have e1' := e1 k (by omega)
      have e0' := e0 (k + 1) (by omega)
      simp only [Int.natCast_zero] at e1'
      simp (disch := omega) only [laws_szValue.f, laws_szValueS.f, w64, e0', if_neg, if_pos, e1', Option.bind_some]
    · refine ⟨r, ⟨K1 + x.f3.length + 3, fun k hk => ?_⟩, .inr ⟨hr, ⟨x.f0, x.f1, x.f2, x.f3, ys⟩, ?_, ?_, ?_⟩⟩
      · obtain ⟨k, rfl⟩ : ∃ m, k = m + 2 := ⟨k - 2, by omega⟩
        have e1' := e1 k (by omega)
        have e0' := e0 (k + 1) (by omega)
        simp only [Int.natCast_zero] at e1'
        simp (disch := omega) only [laws_szValue.f, laws_szValueS.f, w64, e0', if_neg, e1', Option.bind_some]
      · exact .mk _ (wf64V h0) (wf64V h1) (by show x.f2.size ≤ _; omega) ⟨by show x.f3.length ≤ _; omega, fun s hs => by have := tot_mem x.f3 s hs; omega⟩ (by show ys.length ≤ _; omega) hsm
      · obtain ⟨K2, e2⟩ := hto [] rfl
        refine ⟨K2 + x.f3.length + 3, fun k hk => ?_⟩
        obtain ⟨k, rfl⟩ : ∃ m, k = m + 2 := ⟨k - 2, by omega⟩
        have e2' := e2 k (by omega)
        have t0 := to_f x.f3 (by omega) (k + 1) (by omega)
        simp only [Int.natCast_zero, List.nil_append] at e2'
        simp (disch := omega) only [laws_toValue.f, laws_toValueS.f, t0, if_pos, Int.toNat_natCast, e2', Option.bind_some]
      · simp only [ndV]; omega

theorem eqV_self (y : S30) (sm : SmV y) : Ev (fun k => laws_eqValue.f k y.f0 y.f1 y.f2 y.f3 y.f4 y.f0 y.f1 y.f2 y.f3 y.f4) true := by
  induction sm with
  | mk y h0 h1 h2 h3 h3_ h4_ ih =>
    have loop : ∀ d i, i + d = y.f4.length → Ev (fun k => laws_eqValueS.l0 k y.f4 y.f4 i) true := by
      intro d
      induction d with
      | zero =>
        intro i hi
        refine ⟨1, fun k hk => ?_⟩
        obtain ⟨k, rfl⟩ := succ_of (show 0 < k by omega)
        simp (disch := omega) only [laws_eqValueS.l0, if_neg]
      | succ d ihd =>
        intro i hi
        have hlt : i < y.f4.length := by omega
        obtain ⟨K1, e1⟩ := ih y.f4[i] (List.getElem_mem hlt)
        obtain ⟨K2, e2⟩ := ihd (i + 1) (by omega)
        refine ⟨K1 + K2 + 1, fun k hk => ?_⟩
        obtain ⟨k, rfl⟩ := succ_of (show 0 < k by omega)
        simp (disch := omega) only [laws_eqValueS.l0, rdIV, if_pos, e1, Option.bind_some, w64, cast1, e2, if_true]
    obtain ⟨K, e⟩ := loop y.f4.length 0 (by omega)
    refine ⟨K + y.f3.length + 3, fun k hk => ?_⟩
    obtain ⟨k, rfl⟩ : ∃ m, k = m + 2 := ⟨k - 2, by omega⟩
    have e' := e k (by omega)
    have e0 := eq_f y.f3 (by have := h3.1; omega) (k + 1) (by omega)
    simp only [Int.natCast_zero] at e'
    simp only [laws_eqValue.f, laws_eqValueS.f, e0, if_true, e', Option.bind_some]

theorem strOf_bytes (s : ByteArray) : strOfNums (bytesOf s) = s := by
  obtain ⟨⟨l⟩⟩ := s
  have : (bytesOf ⟨⟨l⟩⟩).map (fun n => UInt8.ofNat n.toNat) = l := by
    simp [bytesOf, List.map_map, Function.comp_def]
  unfold strOfNums
  rw [this]

theorem bytes_inj {s t : ByteArray} (h : bytesOf s = bytesOf t) : s = t := by
  rw [← strOf_bytes s, h, strOf_bytes]

theorem ext_data (s : ByteArray) (a b : Nat) : (s.extract a b).data.toList = (s.data.toList.drop a).take (b - a) := by
  obtain ⟨⟨l⟩⟩ := s
  rw [ByteArray.extract_mk]

theorem bytes_extract (s : ByteArray) (a b : Nat) : bytesOf (s.extract a b) = ((bytesOf s).drop a).take (b - a) := by
  unfold bytesOf
  rw [ext_data, List.map_take, List.map_drop]

theorem bytes_append (s t : ByteArray) : bytesOf (s ++ t) = bytesOf s ++ bytesOf t := by
  obtain ⟨⟨l⟩⟩ := s
  obtain ⟨⟨m⟩⟩ := t
  simp [bytesOf]

theorem bytes_one (m : Nat) (h : m < 10) : bytesOf (strOfNums [48 + (m : Int)]) = [48 + (m : Int)] := by
  simp [bytesOf, strOfNums]; omega

theorem toList_iff (s t : ByteArray) : s.toList = t.toList ↔ s = t := by
  constructor
  · intro h
    rw [ByteArray.toList_eq, ByteArray.toList_eq] at h
    apply bytes_inj
    unfold bytesOf
    rw [h]
  · rintro rfl; rfl

theorem lst_step {α : Type} (a b : List α) (i : Nat) (ha : i < a.length) (hb : i < b.length) : (a.drop i = b.drop i) ↔ (a[i] = b[i] ∧ a.drop (i + 1) = b.drop (i + 1)) := by
  rw [List.drop_eq_getElem_cons ha, List.drop_eq_getElem_cons hb, List.cons.injEq]

open Classical in
theorem texts_f (l m : List ByteArray) (hl : l.length ≤ 1048576) : Ev (fun k => spec_l3Texts.f k l m) (decide (l = m)) ∧ Ev (fun k => impl_sameStrings.f k l m) (decide (l = m)) := by
  by_cases hlen : l.length = m.length
  · have hz : (l.length : Int) = (m.length : Int) := by omega
    have loop : ∀ d i, i + d = l.length → ∀ k, d < k → spec_l3Texts.l0 k l m i = some (decide (l.drop i = m.drop i)) ∧ impl_sameStrings.l0 k l m (l.length : Int) i = some (decide (l.drop i = m.drop i)) := by
      intro d
      induction d with
      | zero =>
        intro i hi k hk
        obtain ⟨k, rfl⟩ := succ_of (show 0 < k by omega)
        have e : l.drop i = m.drop i := by rw [List.drop_of_length_le (by omega), List.drop_of_length_le (by omega)]
        simp (disch := omega) only [spec_l3Texts.l0, impl_sameStrings.l0, if_neg, e, decide_true, and_self]
      | succ d ih =>
        intro i hi k hk
        obtain ⟨k, rfl⟩ := succ_of (show 0 < k by omega)
        have h1 : i < l.length := by omega
        have h2 : i < m.length := by omega
        obtain ⟨e1, e2⟩ := ih (i + 1) (by omega) k (by omega)
        have es : decide (l.drop i = m.drop i) = decide (l[i] = m[i] ∧ l.drop (i + 1) = m.drop (i + 1)) := decide_eq_decide.mpr (lst_step l m i h1 h2)
        rw [es]
        simp (disch := omega) only [spec_l3Texts.l0, impl_sameStrings.l0, rd_at, if_pos, w64, cast1, e1, e2, toList_iff]
        by_cases h : l[i] = m[i] <;> simp [h]
    refine ⟨⟨l.length + 1, fun k hk => ?_⟩, ⟨l.length + 1, fun k hk => ?_⟩⟩
    · have := (loop l.length 0 (by omega) k (by omega)).1
      simp only [List.drop_zero, Int.natCast_zero] at this
      simp only [spec_l3Texts.f, if_pos hz, this]
    · have := (loop l.length 0 (by omega) k (by omega)).2
      simp only [List.drop_zero, Int.natCast_zero] at this
      simp only [impl_sameStrings.f, if_pos hz, this]
  · have hz : ¬ (l.length : Int) = (m.length : Int) := by omega
    have hn : ¬ l = m := fun h => hlen (by rw [h])
    exact ⟨⟨0, fun k hk => by simp only [spec_l3Texts.f, if_neg hz, hn, decide_false]⟩, ⟨0, fun k hk => by simp only [impl_sameStrings.f, if_neg hz, hn, decide_false]⟩⟩

theorem sV_iff (y z : S30) : y = z ↔ (y.f0 = z.f0 ∧ y.f1 = z.f1 ∧ y.f2 = z.f2 ∧ y.f3 = z.f3 ∧ y.f4 = z.f4) := by
  cases y; cases z; simp

open Classical in
theorem eqV_f (y : S30) (sm : SmV y) : ∀ z : S30, Ev (fun k => spec_EqualValue.f k y.f0 y.f1 y.f2 y.f3 y.f4 z.f0 z.f1 z.f2 z.f3 z.f4) (decide (y = z)) ∧ Ev (fun k => impl_EqualValue.f k y.f0 y.f1 y.f2 y.f3 y.f4 z.f0 z.f1 z.f2 z.f3 z.f4) (decide (y = z)) := by
  induction sm with
  | mk y h0 h1 h2 h3 h4 h5 ih =>
    intro z
    have hi := sV_iff y z
    obtain ⟨⟨K1, e1⟩, ⟨K2, e2⟩⟩ := texts_f y.f3 z.f3 h3.1
    by_cases a0 : y.f0 = z.f0 ∧ y.f1 = z.f1 ∧ y.f2 = z.f2 ∧ y.f3 = z.f3 ∧ y.f4.length = z.f4.length
    · obtain ⟨a0, a1, a2, a3, a4⟩ := a0
      have loop : ∀ d i, i + d = y.f4.length → Ev (fun k => spec_EqualValue.l0 k i y.f0 y.f1 y.f2 y.f3 y.f4 z.f0 z.f1 z.f2 z.f3 z.f4) (decide (y.f4.drop i = z.f4.drop i)) ∧ Ev (fun k => impl_sameValues.l0 k y.f4 z.f4 (y.f4.length : Int) i) (decide (y.f4.drop i = z.f4.drop i)) := by
        intro d
        induction d with
        | zero =>
          intro i hi'
          have e : y.f4.drop i = z.f4.drop i := by rw [List.drop_of_length_le (by omega), List.drop_of_length_le (by omega)]
          simp only [e, decide_true]
          refine ⟨⟨1, fun k hk => ?_⟩, ⟨1, fun k hk => ?_⟩⟩ <;> obtain ⟨k, rfl⟩ := succ_of (show 0 < k by omega)
          · simp (disch := omega) only [spec_EqualValue.l0, if_neg]
          · simp (disch := omega) only [impl_sameValues.l0, if_neg]
        | succ d ihd =>
          intro i hi'
          have b1 : i < y.f4.length := by omega
          have b2 : i < z.f4.length := by omega
          obtain ⟨⟨K3, e3⟩, ⟨K4, e4⟩⟩ := ih y.f4[i] (List.getElem_mem b1) z.f4[i]
          obtain ⟨⟨K5, e5⟩, ⟨K6, e6⟩⟩ := ihd (i + 1) (by omega)
          have es : decide (y.f4.drop i = z.f4.drop i) = decide (y.f4[i] = z.f4[i] ∧ y.f4.drop (i + 1) = z.f4.drop (i + 1)) := decide_eq_decide.mpr (lst_step y.f4 z.f4 i b1 b2)
          rw [es]
          refine ⟨⟨K3 + K5 + 1, fun k hk => ?_⟩, ⟨K4 + K6 + 1, fun k hk => ?_⟩⟩ <;> obtain ⟨k, rfl⟩ := succ_of (show 0 < k by omega)
          · simp (disch := omega) only [spec_EqualValue.l0, rdIV, if_pos, e3, Option.bind_some, w64, cast1, e5]
            by_cases h : y.f4[i] = z.f4[i] <;> simp [h]
          · simp (disch := omega) only [impl_sameValues.l0, rdIV, if_pos, e4, Option.bind_some, w64, cast1, e6]
            by_cases h : y.f4[i] = z.f4[i] <;> simp [h]
      obtain ⟨⟨K3, e3⟩, ⟨K4, e4⟩⟩ := loop y.f4.length 0 (by omega)
      simp only [List.drop_zero, Int.natCast_zero] at e3 e4
      have hd : decide (y = z) = decide (y.f4 = z.f4) := decide_eq_decide.mpr ⟨fun h => (hi.1 h).2.2.2.2, fun h => hi.2 ⟨a0, a1, a2, a3, h⟩⟩
      have hb : ((y.f4.length : Int) != (z.f4.length : Int)) = false := by simp [a4]
      have hz : (y.f4.length : Int) = (z.f4.length : Int) := by omega
      have hl : y.f2.toList = z.f2.toList := by rw [a2]
      rw [hd]
      refine ⟨⟨K1 + K3 + 2, fun k hk => ?_⟩, ⟨K2 + K4 + 2, fun k hk => ?_⟩⟩ <;> obtain ⟨k, rfl⟩ : ∃ m, k = m + 2 := ⟨k - 2, by omega⟩
      · have e3' := e3 k (by omega)
        have e1' := e1 (k + 1) (by omega)
        have hs : decide (y.f3 = z.f3) = true := decide_eq_true a3
        rw [hs] at e1'
        simp only [spec_EqualValue.f, spec_EqualValue.j0, if_pos a0, if_pos a1, if_pos hl, e1', Option.bind_some, if_true, hb, Bool.false_eq_true, if_false]
        exact e3'
      · have e4' := e4 k (by omega)
        have e2' := e2 (k + 1) (by omega)
        have hs : decide (y.f3 = z.f3) = true := decide_eq_true a3
        rw [hs] at e2'
        simp only [impl_EqualValue.f, impl_sameValues.f, if_pos a0, if_pos a1, if_pos hl, e2', Option.bind_some, if_true, if_pos hz]
        rw [e4']; rfl
    · have hn : ¬ y = z := fun h => a0 (by rw [h]; simp)
      simp only [hn, decide_false]
      refine ⟨⟨K1 + 2, fun k hk => ?_⟩, ⟨K2 + 2, fun k hk => ?_⟩⟩ <;> obtain ⟨k, rfl⟩ : ∃ m, k = m + 2 := ⟨k - 2, by omega⟩
      · have e1' := e1 (k + 1) (by omega)
        simp only [spec_EqualValue.f, spec_EqualValue.j0, if_true, toList_iff, e1', Option.bind_some]
        by_cases b0 : y.f0 = z.f0
        · by_cases b1 : y.f1 = z.f1
          · by_cases b2 : y.f2 = z.f2
            · rw [if_pos b0, if_pos b1, if_pos b2]
              by_cases b3 : y.f3 = z.f3
              · have hz : ((y.f4.length : Int) != (z.f4.length : Int)) = true := bne_iff_ne.mpr (fun h => a0 ⟨b0, b1, b2, b3, by omega⟩)
                rw [if_pos (decide_eq_true b3), if_pos hz]
              · rw [if_neg (by simpa using b3)]
            · rw [if_pos b0, if_pos b1, if_neg b2]
          · rw [if_pos b0, if_neg b1]
        · rw [if_neg b0]
      · have e2' := e2 (k + 1) (by omega)
        simp only [impl_EqualValue.f, impl_sameValues.f, toList_iff, e2', Option.bind_some]
        by_cases b0 : y.f0 = z.f0
        · by_cases b1 : y.f1 = z.f1
          · by_cases b2 : y.f2 = z.f2
            · rw [if_pos b0, if_pos b1, if_pos b2]
              by_cases b3 : y.f3 = z.f3
              · have hz : ¬ ((y.f4.length : Int) = (z.f4.length : Int)) := fun h => a0 ⟨b0, b1, b2, b3, by omega⟩
                rw [if_pos (decide_eq_true b3), if_neg hz]; rfl
              · rw [if_neg (by simpa using b3)]
            · rw [if_pos b0, if_pos b1, if_neg b2]
          · rw [if_pos b0, if_neg b1]
        · rw [if_neg b0]

theorem FnExactEqualValue (x0 : S25) (o0 : Ok25 x0) (x1 : S25) (o1 : Ok25 x1) : ∃ k, laws_FnExactEqualValue.f k x0.f0 x0.f1 x0.f2 x0.f3 x0.f4 x1.f0 x1.f1 x1.f2 x1.f3 x1.f4 = some true := by
  obtain ⟨r, ⟨K1, h1⟩, h⟩ := szV_to x0 o0 1048576 (by omega) (by omega)
  rcases h with h | ⟨h, y, sm, ⟨K2, h2⟩, hn⟩
  · have e1 := h1 K1 (by omega)
    exact ⟨K1, by simp only [laws_FnExactEqualValue.f, e1, Option.bind_some, if_pos h]⟩
  · have hp := ndV_eq y
    obtain ⟨r', ⟨K3, h3⟩, h'⟩ := szV_to x1 o1 r h (by omega)
    rcases h' with h' | ⟨h', z, sm', ⟨K4, h4⟩, hn'⟩
    · have e1 := h1 (K1 + K3) (by omega)
      have e3 := h3 (K1 + K3) (by omega)
      have g : ¬ r < 0 := by omega
      exact ⟨K1 + K3, by simp only [laws_FnExactEqualValue.f, e1, e3, Option.bind_some, if_neg g, if_pos h']⟩
    · have hp' := ndV_eq z
      obtain ⟨⟨K5, h5⟩, ⟨K6, h6⟩⟩ := eqV_f y sm z
      obtain ⟨K7, h7⟩ := eqV_self y sm
      obtain ⟨K8, h8⟩ := eqV_self z sm'
      have e1 := h1 (K1 + K2 + K3 + K4 + K5 + K6 + K7 + K8) (by omega)
      have e2 := h2 (K1 + K2 + K3 + K4 + K5 + K6 + K7 + K8) (by omega)
      have e3 := h3 (K1 + K2 + K3 + K4 + K5 + K6 + K7 + K8) (by omega)
      have e4 := h4 (K1 + K2 + K3 + K4 + K5 + K6 + K7 + K8) (by omega)
      have e5 := h5 (K1 + K2 + K3 + K4 + K5 + K6 + K7 + K8) (by omega)
      have e6 := h6 (K1 + K2 + K3 + K4 + K5 + K6 + K7 + K8) (by omega)
      have e7 := h7 (K1 + K2 + K3 + K4 + K5 + K6 + K7 + K8) (by omega)
      have e8 := h8 (K1 + K2 + K3 + K4 + K5 + K6 + K7 + K8) (by omega)
      have g : ¬ r < 0 := by omega
      have g' : ¬ r' < 0 := by omega
      refine ⟨K1 + K2 + K3 + K4 + K5 + K6 + K7 + K8, ?_⟩
      simp only [laws_FnExactEqualValue.f, e1, e2, e3, e4, e5, e6, e7, e8, Option.bind_some, if_neg g, if_neg g', if_true, bne_self_eq_false, Bool.false_eq_true, if_false]

end Go.Proofs.Ytmelflbbeecjfaa.Pure
