/- Integers and numbers are parsed from their decimal representation, and parsed strings are that representation, for every code (of at most 2^47 - 4096 bytes). -/
import Derived.Test.YteagmmcglbcifaaXEx4
namespace Go.Proofs.Yteagmmcglbcifaa.Pure
open Go.RowKit Go.Proofs.Yteagmmcglbcifaa.XE Go.Proofs.YteagmmcglbcifaaW.PrintWords Go.Proofs.YteagmmcglbcifaaW.PrintLast

set_option linter.unusedSimpArgs false
set_option linter.unusedVariables false

theorem w64 {n : Int} (h : -9223372036854775808 ≤ n) (h' : n ≤ 9223372036854775807) : wrap64 n = n := by unfold wrap64; omega
theorem cast1 (i : Nat) : (i : Int) + 1 = ((i + 1 : Nat) : Int) := by omega
theorem succ_of {d k : Nat} (h : d < k) : ∃ m, k = m + 1 := ⟨k - 1, by omega⟩

/-- The figures of a number. -/
def dgs (n : Nat) : ByteArray := if n < 10 then strOfNums [48 + (n : Int)] else dgs (n / 10) ++ strOfNums [48 + ((n % 10 : Nat) : Int)]
termination_by n
decreasing_by omega

/-- The figures of a number; none of nought. -/
def dg0 (n : Nat) : ByteArray := if n = 0 then ⟨#[]⟩ else dgs n

theorem dg0_step (n : Nat) (h : n ≠ 0) : dg0 n = dg0 (n / 10) ++ strOfNums [48 + ((n % 10 : Nat) : Int)] := by
  unfold dg0
  rw [if_neg h]
  by_cases h10 : n < 10
  · have e : n / 10 = 0 := by omega
    have e' : n % 10 = n := by omega
    rw [dgs, if_pos h10, e, if_pos rfl, e']
    exact (ByteArray.empty_append).symm
  · rw [dgs, if_neg h10, if_neg (by omega)]

theorem dgs_size (d : Nat) : ∀ n, n < 10 ^ (d + 1) → (dgs n).size ≤ d + 1 := by
  induction d with
  | zero => intro n h; rw [dgs, if_pos (by omega)]; simp [strOfNums_size]
  | succ d ih =>
    intro n h
    by_cases h10 : n < 10
    · rw [dgs, if_pos h10]; simp [strOfNums_size]
    · rw [dgs, if_neg h10, ByteArray.size_append, strOfNums_size]
      have := ih (n / 10) (by rw [Nat.pow_succ] at h; omega)
      simp; omega

/-- A number with its sign. -/
def signed (b : Bool) (n : Nat) : Int := if b then -(n : Int) else n

theorem fig (x : Int) (m : Nat) (hm : m < 10) (hx : x = m ∨ x = -(m : Int)) : (x < 0 → wrap64 (48 + wrap64 (-x)) % 256 = 48 + (m : Int)) ∧ (¬ x < 0 → wrap64 (48 + x) % 256 = 48 + (m : Int)) := by
  unfold wrap64
  rcases hx with rfl | rfl <;> constructor <;> intro h <;> omega

theorem spec_digits (b : Bool) (d : Nat) : ∀ (k n : Nat) (out : ByteArray), n < 10 ^ d → d + out.size ≤ 1000 → d ≤ 100 → n ≤ 9223372036854775808 → d < k →
    spec_FormatInt.l0 k (signed b n) b out = some ((if b then (⟨#[45]⟩ : ByteArray) else ⟨#[]⟩) ++ (dg0 n ++ out)) := by
  induction d with
  | zero =>
    intro k n out h hz hd hu hk
    obtain ⟨k, rfl⟩ := succ_of hk
    have e : n = 0 := by omega
    subst e
    have e0 : signed b 0 = 0 := by cases b <;> rfl
    simp only [spec_FormatInt.l0]
    have e1 : dg0 0 ++ out = out := ByteArray.empty_append
    rw [if_pos e0, e1]
    cases b
    · simp; exact ByteArray.empty_append.symm
    · simp; omega
  | succ d ih =>
    intro k n out h hz hd hu hk
    obtain ⟨k, rfl⟩ := succ_of hk
    by_cases h0 : n = 0
    · subst h0
      have e0 : signed b 0 = 0 := by cases b <;> rfl
      simp only [spec_FormatInt.l0]
      have e1 : dg0 0 ++ out = out := ByteArray.empty_append
      rw [if_pos e0, e1]
      cases b
      · simp; exact ByteArray.empty_append.symm
      · simp; omega
    · have hi := ih k (n / 10) (strOfNums [48 + ((n % 10 : Nat) : Int)] ++ out) (by rw [Nat.pow_succ] at h; omega) (by rw [ByteArray.size_append, strOfNums_size]; simp; omega) (by omega) (by omega) (by omega)
      have e0 : signed b n ≠ 0 := by unfold signed; split <;> omega
      have em : Int.tmod (signed b n) 10 = signed b (n % 10) := by
        cases b
        · show Int.tmod (n : Int) 10 = ((n % 10 : Nat) : Int)
          rw [Int.tmod_eq_emod_of_nonneg (by omega)]; omega
        · show Int.tmod (-(n : Int)) 10 = -((n % 10 : Nat) : Int)
          rw [Int.neg_tmod, Int.tmod_eq_emod_of_nonneg (by omega)]; omega
      have ed : wrap64 (Int.tdiv (signed b n) 10) = signed b (n / 10) := by
        cases b
        · show wrap64 (Int.tdiv (n : Int) 10) = ((n / 10 : Nat) : Int)
          rw [Int.tdiv_eq_ediv_of_nonneg (by omega)]; unfold wrap64; omega
        · show wrap64 (Int.tdiv (-(n : Int)) 10) = -((n / 10 : Nat) : Int)
          rw [Int.neg_tdiv, Int.tdiv_eq_ediv_of_nonneg (by omega)]; unfold wrap64; omega
      simp only [spec_FormatInt.l0]
      rw [if_neg e0, em, ed]
      have eb : (strOfNums [48 + ((n % 10 : Nat) : Int)]).size + out.size ≤ 9223372036854775807 := by rw [strOfNums_size]; simp; omega
      have hx : signed b (n % 10) = ((n % 10 : Nat) : Int) ∨ signed b (n % 10) = -((n % 10 : Nat) : Int) := by cases b <;> simp [signed]
      obtain ⟨ez1, ez2⟩ := fig (signed b (n % 10)) (n % 10) (by omega) hx
      by_cases hneg : signed b (n % 10) < 0
      · rw [if_pos hneg, ez1 hneg]
        simp only [Option.bind_some]
        rw [if_pos eb, hi, dg0_step n h0, ByteArray.append_assoc]
      · rw [if_neg hneg, ez2 hneg]
        simp only [Option.bind_some]
        rw [if_pos eb, hi, dg0_step n h0, ByteArray.append_assoc]

/-- A whole number's text. -/
def fmt (a : Int) : ByteArray := (if a < 0 then (⟨#[45]⟩ : ByteArray) else ⟨#[]⟩) ++ dgs a.natAbs

theorem fmt_spec (a : Int) (h1 : -9223372036854775808 ≤ a) (h2 : a ≤ 9223372036854775807) (k : Nat) (hk : 40 < k) : spec_FormatInt.f k a = some (fmt a) := by
  have big : a.natAbs < 10 ^ 20 := by
    have : a.natAbs ≤ 9223372036854775808 := by omega
    omega
  by_cases h0 : a = 0
  · subst h0
    have e3 : fmt 0 = (⟨#[48]⟩ : ByteArray) := by
      unfold fmt
      rw [if_neg (by omega)]
      have : dgs (Int.natAbs 0) = (⟨#[48]⟩ : ByteArray) := by rw [dgs, if_pos (by decide)]; rfl
      rw [this]; exact ByteArray.empty_append
    rw [e3]; simp only [spec_FormatInt.f, if_true]
  · have ed : dg0 a.natAbs = dgs a.natAbs := by unfold dg0; rw [if_neg (by omega)]
    have eq_ : a = signed (decide (a < 0)) a.natAbs := by unfold signed; by_cases h : a < 0 <;> simp [h] <;> omega
    unfold spec_FormatInt.f
    rw [if_neg h0]
    have := spec_digits (decide (a < 0)) 20 k a.natAbs ⟨#[]⟩ big (by decide) (by omega) (by omega) (by omega)
    rw [← eq_, ed] at this
    rw [this]
    unfold fmt
    by_cases h : a < 0 <;> simp [h] <;> exact ByteArray.append_empty

theorem strOf_bytes (s : ByteArray) : strOfNums (bytesOf s) = s := by
  obtain ⟨⟨l⟩⟩ := s
  have : (bytesOf ⟨⟨l⟩⟩).map (fun n => UInt8.ofNat n.toNat) = l := by
    simp [bytesOf, List.map_map, Function.comp_def]
  unfold strOfNums
  rw [this]

theorem bytes_inj {s t : ByteArray} (h : bytesOf s = bytesOf t) : s = t := by
  rw [← strOf_bytes s, h, strOf_bytes]

theorem ext_data (s : ByteArray) (a b : Nat) : (s.extract a b).data.toList = (s.data.toList.drop a).take (b - a) := by
  obtain ⟨⟨l⟩⟩ := s
  rw [ByteArray.extract_mk]

theorem bytes_extract (s : ByteArray) (a b : Nat) : bytesOf (s.extract a b) = ((bytesOf s).drop a).take (b - a) := by
  unfold bytesOf
  rw [ext_data, List.map_take, List.map_drop]

theorem bytes_append (s t : ByteArray) : bytesOf (s ++ t) = bytesOf s ++ bytesOf t := by
  obtain ⟨⟨l⟩⟩ := s
  obtain ⟨⟨m⟩⟩ := t
  simp [bytesOf]

theorem bytes_one (m : Nat) (h : m < 10) : bytesOf (strOfNums [48 + (m : Int)]) = [48 + (m : Int)] := by
  simp [bytesOf, strOfNums]; omega

theorem toList_iff (s t : ByteArray) : s.toList = t.toList ↔ s = t := by
  constructor
  · intro h
    rw [ByteArray.toList_eq, ByteArray.toList_eq] at h
    apply bytes_inj
    unfold bytesOf
    rw [h]
  · rintro rfl; rfl

theorem bytes_get (s : ByteArray) (i : Nat) (h : i < s.size) : (bytesOf s)[i]? = some (bt s i) := by
  rw [← rd_bytesOf]
  have h' : i < (bytesOf s).length := by rw [bytesOf_length]; exact h
  simp [rd, List.getElem?_eq_getElem h']

theorem bytes_take (s : ByteArray) (i : Nat) (h : i < s.size) : (bytesOf s).take (i + 1) = (bytesOf s).take i ++ [bt s i] := by
  have h' : i < (bytesOf s).length := by rw [bytesOf_length]; exact h
  have hg := bytes_get s i h
  rw [List.getElem?_eq_getElem h'] at hg
  rw [List.take_succ_eq_append_getElem h', Option.some.inj hg]


/-- The value of figures. -/
def val (l : List Int) : Int := l.foldl (fun a c => 10 * a + (c - 48)) 0

theorem val_snoc (l : List Int) (c : Int) : val (l ++ [c]) = 10 * val l + (c - 48) := by
  unfold val; rw [List.foldl_append]; rfl

def isd (c : Int) : Prop := 48 ≤ c ∧ c ≤ 57

/-- The value of the first bytes. -/
def pre (t : ByteArray) (i : Nat) : Int := val ((bytesOf t).take i)

theorem pre_succ (t : ByteArray) (i : Nat) (h : i < t.size) : pre t (i + 1) = 10 * pre t i + (bt t i - 48) := by
  unfold pre; rw [bytes_take t i h, val_snoc]

theorem pre_bound (t : ByteArray) (i : Nat) (hi : i ≤ t.size) (h : ∀ j, j < i → isd (bt t (j : Nat))) : 0 ≤ pre t i ∧ pre t i < 10 ^ i := by
  induction i with
  | zero => simp [pre, val]
  | succ i ih =>
    obtain ⟨h1, h2⟩ := ih (by omega) (fun j hj => h j (by omega))
    obtain ⟨h3, h4⟩ := h i (by omega)
    rw [pre_succ t i (by omega), Int.pow_succ]
    constructor <;> omega

def alld (t : ByteArray) : Prop := ∀ j, j < t.size → isd (bt t (j : Nat))

/-- What the figures of a value are. -/
theorem dgs_pre (t : ByteArray) (hd : alld t) (i : Nat) (h1 : 1 ≤ i) (hi : i ≤ t.size) (hz : i = 1 ∨ bt t 0 ≠ 48) : bytesOf (dgs (pre t i).toNat) = (bytesOf t).take i ∧ (bt t 0 ≠ 48 → 1 ≤ pre t i) := by
  induction i with
  | zero => omega
  | succ i ih =>
    obtain ⟨h3, h4⟩ := hd i (by omega)
    rw [pre_succ t i (by omega), bytes_take t i (by omega)]
    by_cases h0 : i = 0
    · subst h0
      have e : pre t 0 = 0 := rfl
      rw [e]
      have hc : ((0 : Nat) : Int) = 0 := rfl
      rw [hc] at h3 h4 ⊢
      refine ⟨?_, fun h => by omega⟩
      have hn : (10 * 0 + (bt t 0 - 48)).toNat < 10 := by omega
      rw [dgs, if_pos hn, bytes_one _ hn]
      simp; omega
    · have hz' : bt t 0 ≠ 48 := by rcases hz with h | h; · omega
                                   · exact h
      obtain ⟨h5, h6⟩ := ih (by omega) (by omega) (.inr hz')
      have h7 := h6 hz'
      refine ⟨?_, fun _ => by omega⟩
      have hn : ¬ (10 * pre t i + (bt t i - 48)).toNat < 10 := by omega
      have hq : (10 * pre t i + (bt t i - 48)).toNat / 10 = (pre t i).toNat := by omega
      have hr : (((10 * pre t i + (bt t i - 48)).toNat % 10 : Nat) : Int) = bt t i - 48 := by omega
      have hm : (10 * pre t i + (bt t i - 48)).toNat % 10 < 10 := by omega
      rw [dgs, if_neg hn, bytes_append, hq, h5, bytes_one _ hm, hr]
      congr 2; omega

theorem dgs_iff (t : ByteArray) (hd : alld t) (h1 : 1 ≤ t.size) : dgs (pre t t.size).toNat = t ↔ (t.size = 1 ∨ bt t 0 ≠ 48) := by
  constructor
  · intro h
    by_cases hz : t.size = 1 ∨ bt t 0 ≠ 48
    · exact hz
    · exfalso
      have h2 : t.size ≠ 1 := fun e => hz (.inl e)
      have h3 : bt t 0 = 48 := Classical.byContradiction fun e => hz (.inr e)
      have key : ∀ i, i + 1 ≤ t.size → pre t (i + 1) < 10 ^ i := by
        intro i
        induction i with
        | zero =>
          intro hi
          rw [pre_succ t 0 (by omega)]
          have e : pre t 0 = 0 := rfl
          have hc : ((0 : Nat) : Int) = 0 := rfl
          rw [e, hc, h3]; decide
        | succ i ih =>
          intro hi
          have h4 := ih (by omega)
          obtain ⟨h5, h6⟩ := hd (i + 1) (by omega)
          rw [pre_succ t (i + 1) (by omega), Int.pow_succ]
          omega
      obtain ⟨m, hm⟩ : ∃ m, t.size = m + 2 := ⟨t.size - 2, by omega⟩
      have h4 := key (m + 1) (by omega)
      have h5 := (pre_bound t t.size (by omega) hd).1
      rw [hm] at h5
      have h6 : (pre t (m + 2)).toNat < 10 ^ (m + 1) := by
        have : ((pre t (m + 2)).toNat : Int) < ((10 ^ (m + 1) : Nat) : Int) := by
          rw [Int.natCast_pow]
          have e : ((10 : Nat) : Int) = 10 := rfl
          rw [e, Int.toNat_of_nonneg h5]; exact h4
        omega
      have h7 := dgs_size m _ h6
      rw [hm] at h
      rw [h] at h7
      omega
  · intro h
    have h2 := (dgs_pre t hd t.size h1 (by omega) h).1
    apply bytes_inj
    rw [h2, List.take_of_length_le (by rw [bytesOf_length]; omega)]

/-- Figures without noughts ahead, at most so many. -/
def good (t : ByteArray) (most : Nat) : Prop := 1 ≤ t.size ∧ t.size ≤ most ∧ alld t ∧ (t.size = 1 ∨ bt t 0 ≠ 48)

theorem impl_nat_loop (t : ByteArray) (ht : t.size ≤ 12) (d : Nat) : ∀ (i : Nat), i + d = t.size → (∀ j, j < i → isd (bt t (j : Nat))) →
    ∃ r, (∀ k, d < k → impl_natural.l0 k t (pre t i) t.size i = some r) ∧ (alld t ∧ r = (pre t t.size, true) ∨ ¬ alld t ∧ r = (0, false)) := by
  induction d with
  | zero =>
    intro i hi hj
    have e : i = t.size := by omega
    subst e
    refine ⟨(pre t t.size, true), fun k hk => ?_, .inl ⟨hj, rfl⟩⟩
    obtain ⟨k, rfl⟩ := succ_of hk
    simp (disch := omega) only [impl_natural.l0, if_neg]
  | succ d ih =>
    intro i hi hj
    by_cases h1 : bt t i < 48
    · refine ⟨(0, false), fun k hk => ?_, .inr ⟨fun h => by have := (h i (by omega)).1; omega, rfl⟩⟩
      obtain ⟨k, rfl⟩ := succ_of hk
      simp (disch := omega) only [impl_natural.l0, if_pos]
    · by_cases h2 : bt t i > 57
      · refine ⟨(0, false), fun k hk => ?_, .inr ⟨fun h => by have := (h i (by omega)).2; omega, rfl⟩⟩
        obtain ⟨k, rfl⟩ := succ_of hk
        simp (disch := omega) only [impl_natural.l0, if_pos, if_neg]
      · have hj' : ∀ j, j < i + 1 → isd (bt t (j : Nat)) := by
          intro j hj'
          by_cases e : j = i
          · subst e; exact ⟨by omega, by omega⟩
          · exact hj j (by omega)
        obtain ⟨r, h3, h4⟩ := ih (i + 1) (by omega) hj'
        refine ⟨r, fun k hk => ?_, h4⟩
        obtain ⟨k, rfl⟩ := succ_of hk
        have hb := pre_bound t i (by omega) hj
        have hp : (10 : Int) ^ i ≤ 10 ^ 12 := by
          have : 10 ^ i ≤ 10 ^ 12 := Nat.pow_le_pow_right (by omega) (by omega)
          have h5 : ((10 ^ i : Nat) : Int) ≤ ((10 ^ 12 : Nat) : Int) := by omega
          rwa [Int.natCast_pow, Int.natCast_pow] at h5
        have hp2 : (10 : Int) ^ 12 = 1000000000000 := by decide
        have e : 10 * pre t i + (bt t i - 48) % 256 = pre t (i + 1) := by
          rw [pre_succ t i (by omega)]; omega
        simp (disch := omega) only [impl_natural.l0, if_pos, if_neg, e, w64, cast1]
        exact h3 k (by omega)

theorem natural_f (t : ByteArray) (most : Nat) (hm : most ≤ 12) : ∃ r, (∀ k, t.size + 2 < k → impl_natural.f k t most = some r) ∧ (good t most ∧ r = (pre t t.size, true) ∨ ¬ good t most ∧ r = (0, false)) := by
  have fin : ∀ k, 1 < k → impl_natural.j0 k t true = some (0, false) := by
    intro k hk
    obtain ⟨k, rfl⟩ := succ_of hk
    simp only [impl_natural.j0, if_true]
  by_cases h0 : t.size = 0
  · refine ⟨(0, false), fun k hk => ?_, .inr ⟨fun h => by have := h.1; omega, rfl⟩⟩
    simp only [impl_natural.f]
    rw [if_pos (by omega)]; exact fin k (by omega)
  · by_cases h1 : most < t.size
    · refine ⟨(0, false), fun k hk => ?_, .inr ⟨fun h => by have := h.2.1; omega, rfl⟩⟩
      simp only [impl_natural.f]
      rw [if_neg (by omega), if_pos (by omega)]; exact fin k (by omega)
    · obtain ⟨r, h3, h4⟩ := impl_nat_loop t (by omega) t.size 0 (by omega) (fun j hj => by omega)
      have fin2 : ∀ k, t.size + 1 < k → impl_natural.j0 k t false = some r := by
        intro k hk
        obtain ⟨k, rfl⟩ := succ_of hk
        simp only [impl_natural.j0]
        exact h3 k (by omega)
      by_cases h2 : 1 < t.size
      · by_cases hz : bt t 0 = 48
        · refine ⟨(0, false), fun k hk => ?_, .inr ⟨fun h => by rcases h.2.2.2 with h | h; · omega
                                                                · exact h hz, rfl⟩⟩
          simp only [impl_natural.f]
          rw [if_neg (by omega), if_neg (by omega), if_pos (by omega), if_pos (by omega), hz]
          exact fin k (by omega)
        · refine ⟨r, fun k hk => ?_, ?_⟩
          · simp only [impl_natural.f]
            rw [if_neg (by omega), if_neg (by omega), if_pos (by omega), if_pos (by omega), beq_eq_false_iff_ne.mpr hz]
            exact fin2 k (by omega)
          · rcases h4 with ⟨h4, h5⟩ | ⟨h4, h5⟩
            · exact .inl ⟨⟨by omega, by omega, h4, .inr hz⟩, h5⟩
            · exact .inr ⟨fun h => h4 h.2.2.1, h5⟩
      · refine ⟨r, fun k hk => ?_, ?_⟩
        · simp only [impl_natural.f]
          rw [if_neg (by omega), if_neg (by omega), if_neg (by omega)]
          exact fin2 k (by omega)
        · rcases h4 with ⟨h4, h5⟩ | ⟨h4, h5⟩
          · exact .inl ⟨⟨by omega, by omega, h4, .inl (by omega)⟩, h5⟩
          · exact .inr ⟨fun h => h4 h.2.2.1, h5⟩

/-- How the reference ends: the number, if its text is the one that was read. -/
def fin (s : ByteArray) (b : Bool) (n : Int) : Int × Bool := if fmt (if b then -n else n) = s then (if b then -n else n, true) else (0, false)

theorem spec_loop (s t : ByteArray) (b : Bool) (ht : t.size ≤ 12) (d : Nat) : ∀ (i : Nat), i + d = t.size → (∀ j, j < i → isd (bt t (j : Nat))) →
    ∃ r, (∀ k, d + 60 < k → spec_l1Read.l0 k s b t (pre t i) i = some r) ∧ (alld t ∧ r = fin s b (pre t t.size) ∨ ¬ alld t ∧ r = (0, false)) := by
  induction d with
  | zero =>
    intro i hi hj
    have e : i = t.size := by omega
    subst e
    have hb := pre_bound t t.size (by omega) hj
    have hp : (10 : Int) ^ t.size ≤ 10 ^ 12 := by
      have : 10 ^ t.size ≤ 10 ^ 12 := Nat.pow_le_pow_right (by omega) (by omega)
      have h5 : ((10 ^ t.size : Nat) : Int) ≤ ((10 ^ 12 : Nat) : Int) := by omega
      rwa [Int.natCast_pow, Int.natCast_pow] at h5
    have hp2 : (10 : Int) ^ 12 = 1000000000000 := by decide
    refine ⟨fin s b (pre t t.size), fun k hk => ?_, .inl ⟨hj, rfl⟩⟩
    obtain ⟨k, rfl⟩ := succ_of hk
    have f1 := (fmt_spec (pre t t.size) (by omega) (by omega) k (by omega))
    have f2 := fmt_spec (-pre t t.size) (by omega) (by omega) k (by omega)
    have hw : wrap64 (-pre t t.size) = -pre t t.size := w64 (by omega) (by omega)
    simp (disch := omega) only [spec_l1Read.l0, if_neg, hw]
    cases b
    · simp only [Bool.false_eq_true, if_false, fin, f1, Option.bind_some, toList_iff]
      split <;> rfl
    · simp only [if_true, fin, f2, Option.bind_some, toList_iff]
      split <;> rfl
  | succ d ih =>
    intro i hi hj
    by_cases h1 : bt t i < 48
    · refine ⟨(0, false), fun k hk => ?_, .inr ⟨fun h => by have := (h i (by omega)).1; omega, rfl⟩⟩
      obtain ⟨k, rfl⟩ := succ_of hk
      simp (disch := omega) only [spec_l1Read.l0, if_pos]
    · by_cases h2 : bt t i > 57
      · refine ⟨(0, false), fun k hk => ?_, .inr ⟨fun h => by have := (h i (by omega)).2; omega, rfl⟩⟩
        obtain ⟨k, rfl⟩ := succ_of hk
        simp (disch := omega) only [spec_l1Read.l0, if_pos, if_neg]
      · have hj' : ∀ j, j < i + 1 → isd (bt t (j : Nat)) := by
          intro j hj'
          by_cases e : j = i
          · subst e; exact ⟨by omega, by omega⟩
          · exact hj j (by omega)
        obtain ⟨r, h3, h4⟩ := ih (i + 1) (by omega) hj'
        refine ⟨r, fun k hk => ?_, h4⟩
        obtain ⟨k, rfl⟩ := succ_of hk
        have hb := pre_bound t i (by omega) hj
        have hp : (10 : Int) ^ i ≤ 10 ^ 12 := by
          have : 10 ^ i ≤ 10 ^ 12 := Nat.pow_le_pow_right (by omega) (by omega)
          have h5 : ((10 ^ i : Nat) : Int) ≤ ((10 ^ 12 : Nat) : Int) := by omega
          rwa [Int.natCast_pow, Int.natCast_pow] at h5
        have hp2 : (10 : Int) ^ 12 = 1000000000000 := by decide
        have e : 10 * pre t i + (bt t i - 48) % 256 = pre t (i + 1) := by
          rw [pre_succ t i (by omega)]; omega
        simp (disch := omega) only [spec_l1Read.l0, if_pos, if_neg, e, w64, cast1]
        exact h3 k (by omega)

/-- Behind the sign. -/
def body (s : ByteArray) : ByteArray := s.extract 1 s.size
def negs (s : ByteArray) : Prop := 0 < s.size ∧ bt s 0 = 45

theorem body_bytes (s : ByteArray) (h : negs s) : bytesOf s = 45 :: bytesOf (body s) := by
  unfold body
  have h1 := bytes_get s 0 h.1
  have hl := bytesOf_length s
  rw [bytes_extract, List.take_of_length_le (by rw [List.length_drop]; omega)]
  cases hb : bytesOf s with
  | nil => rw [hb] at hl; simp at hl; have := h.1; omega
  | cons x q =>
    rw [hb] at h1
    simp at h1
    rw [h1, h.2]; rfl

theorem body_size (s : ByteArray) (h : negs s) : s.size = (body s).size + 1 := by
  have := congrArg List.length (body_bytes s h)
  simpa [bytesOf_length] using this

theorem fmt_nat (n : Int) (h : 0 ≤ n) : fmt n = dgs n.toNat := by
  unfold fmt
  rw [if_neg (by omega), show n.natAbs = n.toNat by omega]; exact ByteArray.empty_append

/-- What the reference reads: no sign. -/
theorem fin_pos (t : ByteArray) (hd : alld t) (h1 : 1 ≤ t.size) : fin t false (pre t t.size) = if (t.size = 1 ∨ bt t 0 ≠ 48) then (pre t t.size, true) else (0, false) := by
  have hb := (pre_bound t t.size (by omega) hd).1
  have hi := dgs_iff t hd h1
  unfold fin
  simp only [Bool.false_eq_true, if_false]
  rw [fmt_nat _ hb]
  by_cases h : t.size = 1 ∨ bt t 0 ≠ 48
  · rw [if_pos (hi.mpr h), if_pos h]
  · rw [if_neg (fun e => h (hi.mp e)), if_neg h]

theorem fin_neg (s : ByteArray) (h : negs s) (hd : alld (body s)) (h1 : 1 ≤ (body s).size) : fin s true (pre (body s) (body s).size) = if ((body s).size = 1 ∨ bt (body s) 0 ≠ 48) ∧ pre (body s) (body s).size ≠ 0 then (-pre (body s) (body s).size, true) else (0, false) := by
  have hb := (pre_bound (body s) (body s).size (by omega) hd).1
  have hi := dgs_iff (body s) hd h1
  unfold fin
  simp only [if_true]
  by_cases h0 : pre (body s) (body s).size = 0
  · have hc : ¬ (((body s).size = 1 ∨ bt (body s) 0 ≠ 48) ∧ pre (body s) (body s).size ≠ 0) := fun e => e.2 h0
    rw [if_neg hc, h0]
    rw [if_neg]
    intro e
    have e2 := congrArg ByteArray.size e
    rw [show (-(0 : Int)) = 0 by rfl, fmt_nat 0 (by omega), dgs, if_pos (by decide), strOfNums_size, body_size s h] at e2
    simp only [List.length_cons, List.length_nil] at e2
    omega
  · have e : fmt (-pre (body s) (body s).size) = (⟨#[45]⟩ : ByteArray) ++ dgs (pre (body s) (body s).size).toNat := by
      unfold fmt
      rw [if_pos (by omega), show (-pre (body s) (body s).size).natAbs = (pre (body s) (body s).size).toNat by omega]
    have e2 : (fmt (-pre (body s) (body s).size) = s) ↔ dgs (pre (body s) (body s).size).toNat = body s := by
      rw [e]
      constructor
      · intro q
        have := congrArg bytesOf q
        rw [bytes_append, body_bytes s h] at this
        apply bytes_inj
        exact List.cons.inj this |>.2
      · intro q
        apply bytes_inj
        rw [bytes_append, body_bytes s h, q]; rfl
    by_cases hz : (body s).size = 1 ∨ bt (body s) 0 ≠ 48
    · rw [if_pos (e2.mpr (hi.mpr hz)), if_pos ⟨hz, h0⟩]
    · rw [if_neg (fun q => hz (hi.mp (e2.mp q))), if_neg (fun q => hz q.1)]

/-- What the reference's reader answers. -/
theorem read_f (s : ByteArray) (most : Nat) (hm : most ≤ 12) : ∃ r, (∀ k, s.size + 70 < k → spec_l1Read.f k s most = some r) ∧
    ((negs s ∧ good (body s) most ∧ pre (body s) (body s).size ≠ 0 ∧ r = (-pre (body s) (body s).size, true)) ∨ (negs s ∧ ¬ (good (body s) most ∧ pre (body s) (body s).size ≠ 0) ∧ r = (0, false)) ∨
     (¬ negs s ∧ good s most ∧ r = (pre s s.size, true)) ∨ (¬ negs s ∧ ¬ good s most ∧ r = (0, false))) := by
  have bad : ∀ (b : Bool) (t : ByteArray), ∀ k, 1 < k → spec_l1Read.j2 k s b t true = some (0, false) := by
    intro b t k hk
    obtain ⟨k, rfl⟩ := succ_of hk
    simp only [spec_l1Read.j2, if_true]
  have step : ∀ (b : Bool) (t : ByteArray), t.size ≤ s.size → ∃ r, (∀ k, s.size + 66 < k → spec_l1Read.j1 k s most b t = some r) ∧
      ((1 ≤ t.size ∧ t.size ≤ most ∧ alld t) ∧ r = fin s b (pre t t.size) ∨ ¬ (1 ≤ t.size ∧ t.size ≤ most ∧ alld t) ∧ r = (0, false)) := by
    intro b t hts
    by_cases h0 : t.size < 1
    · refine ⟨(0, false), fun k hk => ?_, .inr ⟨fun h => by omega, rfl⟩⟩
      obtain ⟨k, rfl⟩ := succ_of hk
      simp (disch := omega) only [spec_l1Read.j1, if_pos]
      exact bad b t k (by omega)
    · by_cases h1 : most < t.size
      · refine ⟨(0, false), fun k hk => ?_, .inr ⟨fun h => by omega, rfl⟩⟩
        obtain ⟨k, rfl⟩ := succ_of hk
        have e : decide ((t.size : Int) > (most : Int)) = true := decide_eq_true (by omega)
        simp (disch := omega) only [spec_l1Read.j1, if_neg, e]
        exact bad b t k (by omega)
      · obtain ⟨r, h3, h4⟩ := spec_loop s t b (by omega) t.size 0 (by omega) (fun j hj => by omega)
        refine ⟨r, fun k hk => ?_, ?_⟩
        · obtain ⟨k, rfl⟩ := succ_of hk
          obtain ⟨k, rfl⟩ : ∃ m, k = m + 1 := ⟨k - 1, by omega⟩
          have e : decide ((t.size : Int) > (most : Int)) = false := decide_eq_false (by omega)
          simp (disch := omega) only [spec_l1Read.j1, spec_l1Read.j2, if_neg, e]
          exact h3 k (by omega)
        · rcases h4 with ⟨h4, h5⟩ | ⟨h4, h5⟩
          · exact .inl ⟨⟨by omega, by omega, h4⟩, h5⟩
          · exact .inr ⟨fun h => h4 h.2.2, h5⟩
  by_cases hn : negs s
  · have hs := body_size s hn
    obtain ⟨r, h1, h2⟩ := step true (body s) (by omega)
    refine ⟨r, fun k hk => ?_, ?_⟩
    · obtain ⟨k, rfl⟩ : ∃ m, k = m + 1 := ⟨k - 1, by omega⟩
      simp only [spec_l1Read.f, spec_l1Read.j0]
      have h3 := hn.1
      have h4 := hn.2
      rw [if_pos (by omega), if_pos (by omega), h4, if_pos (by rfl), if_pos (by omega)]
      exact h1 k (by omega)
    · rcases h2 with ⟨⟨h3, h4, h5⟩, h6⟩ | ⟨h3, h6⟩
      · rw [fin_neg s hn h5 h3] at h6
        by_cases hz : ((body s).size = 1 ∨ bt (body s) 0 ≠ 48) ∧ pre (body s) (body s).size ≠ 0
        · rw [if_pos hz] at h6
          exact .inl ⟨hn, ⟨h3, h4, h5, hz.1⟩, hz.2, h6⟩
        · rw [if_neg hz] at h6
          exact .inr (.inl ⟨hn, fun h => hz ⟨h.1.2.2.2, h.2⟩, h6⟩)
      · exact .inr (.inl ⟨hn, fun h => h3 ⟨h.1.1, h.1.2.1, h.1.2.2.1⟩, h6⟩)
  · obtain ⟨r, h1, h2⟩ := step false s (by omega)
    refine ⟨r, fun k hk => ?_, ?_⟩
    · obtain ⟨k, rfl⟩ : ∃ m, k = m + 1 := ⟨k - 1, by omega⟩
      simp only [spec_l1Read.f, spec_l1Read.j0]
      by_cases h0 : 0 < s.size
      · have hb : (bt s 0 == 45) = false := beq_eq_false_iff_ne.mpr (fun e => hn ⟨h0, e⟩)
        rw [if_pos (by omega), if_pos (by omega), hb, if_neg (by simp)]
        exact h1 k (by omega)
      · rw [if_neg (by omega), if_neg (by simp)]
        exact h1 k (by omega)
    · rcases h2 with ⟨⟨h3, h4, h5⟩, h6⟩ | ⟨h3, h6⟩
      · rw [fin_pos s h5 h3] at h6
        by_cases hz : s.size = 1 ∨ bt s 0 ≠ 48
        · rw [if_pos hz] at h6
          exact .inr (.inr (.inl ⟨hn, ⟨h3, h4, h5, hz⟩, h6⟩))
        · rw [if_neg hz] at h6
          exact .inr (.inr (.inr ⟨hn, fun h => hz h.2.2.2, h6⟩))
      · exact .inr (.inr (.inr ⟨hn, fun h => h3 ⟨h.1, h.2.1, h.2.2.1⟩, h6⟩))

theorem good_not_neg (s : ByteArray) (most : Nat) (h : good s most) : ¬ negs s := by
  intro hn
  have h1 := (h.2.2.1 0 hn.1).1
  have h2 := hn.2
  have hc : ((0 : Nat) : Int) = 0 := rfl
  rw [hc] at h1
  omega

theorem number_f (s : ByteArray) : ∃ r, (∀ k, s.size + 80 < k → spec_ParseNumber.f k s = some r ∧ impl_ParseNumber.f k s = some r) ∧ (good s 6 ∧ r = (pre s s.size, true) ∨ ¬ good s 6 ∧ r = (0, false)) := by
  obtain ⟨r, h1, h2⟩ := read_f s 6 (by omega)
  obtain ⟨q, h3, h4⟩ := natural_f s 6 (by omega)
  refine ⟨q, fun k hk => ⟨?_, ?_⟩, h4⟩
  · have h5 := h1 k (by omega)
    have h6 : ((6 : Nat) : Int) = 6 := rfl
    rw [h6] at h5
    simp only [spec_ParseNumber.f, h5, Option.bind_some]
    rcases h2 with ⟨a, b, c, rfl⟩ | ⟨a, b, rfl⟩ | ⟨a, b, rfl⟩ | ⟨a, b, rfl⟩
    · have h0 := (pre_bound (body s) (body s).size (by omega) b.2.2.1).1
      rcases h4 with ⟨g, _⟩ | ⟨_, rfl⟩
      · exact absurd a (good_not_neg s 6 g)
      · simp only [if_true]; rw [if_pos (by omega)]
    · rcases h4 with ⟨g, _⟩ | ⟨_, rfl⟩
      · exact absurd a (good_not_neg s 6 g)
      · simp
    · have h0 := (pre_bound s s.size (by omega) b.2.2.1).1
      rcases h4 with ⟨_, rfl⟩ | ⟨g, _⟩
      · simp only [if_true]; rw [if_neg (by omega)]
      · exact absurd b g
    · rcases h4 with ⟨g, _⟩ | ⟨_, rfl⟩
      · exact absurd g b
      · simp
  · have h5 := h3 k (by omega)
    have h6 : ((6 : Nat) : Int) = 6 := rfl
    rw [h6] at h5
    simp only [impl_ParseNumber.f, h5, Option.bind_some]

/-- The program's reader of whole numbers. -/
theorem int_i (s : ByteArray) : ∃ r, (∀ k, s.size + 80 < k → impl_ParseInt.f k s = some r) ∧
    ((negs s ∧ good (body s) 12 ∧ pre (body s) (body s).size ≠ 0 ∧ r = (-pre (body s) (body s).size, true)) ∨ (negs s ∧ ¬ (good (body s) 12 ∧ pre (body s) (body s).size ≠ 0) ∧ r = (0, false)) ∨
     (¬ negs s ∧ good s 12 ∧ r = (pre s s.size, true)) ∨ (¬ negs s ∧ ¬ good s 12 ∧ r = (0, false))) := by
  obtain ⟨r, h1, h2⟩ := read_f s 12 (by omega)
  have h6 : ((12 : Nat) : Int) = 12 := rfl
  refine ⟨r, fun k hk => ?_, h2⟩
  · obtain ⟨k, rfl⟩ : ∃ m, k = m + 1 := ⟨k - 1, by omega⟩
    by_cases hn : negs s
    · have hs := body_size s hn
      obtain ⟨q, h3, h4⟩ := natural_f (body s) 12 (by omega)
      have h5 := h3 k (by omega)
      rw [h6] at h5
      have h7 := hn.1
      simp only [impl_ParseInt.f, impl_ParseInt.j0]
      rw [if_pos (by omega), if_pos (by omega), hn.2, if_pos (by rfl), if_pos (by omega)]
      have h5' : impl_natural.f k (s.extract 1 s.size) 12 = some q := h5
      rw [h5']
      simp only [Option.bind_some]
      rcases h4 with ⟨g, rfl⟩ | ⟨g, rfl⟩
      · have h0 := pre_bound (body s) (body s).size (by omega) g.2.2.1
        have hp : (10 : Int) ^ (body s).size ≤ 10 ^ 12 := by
          have : 10 ^ (body s).size ≤ 10 ^ 12 := Nat.pow_le_pow_right (by omega) g.2.1
          have h8 : ((10 ^ (body s).size : Nat) : Int) ≤ ((10 ^ 12 : Nat) : Int) := by omega
          rwa [Int.natCast_pow, Int.natCast_pow] at h8
        have hp2 : (10 : Int) ^ 12 = 1000000000000 := by decide
        simp only [if_true]
        rcases h2 with ⟨a, b, c, rfl⟩ | ⟨a, b, rfl⟩ | ⟨a, b, rfl⟩ | ⟨a, b, rfl⟩
        · rw [if_neg c, w64 (by omega) (by omega)]
        · rw [if_pos (Classical.byContradiction fun e => b ⟨g, e⟩)]
        · exact absurd hn a
        · exact absurd hn a
      · simp only [Bool.false_eq_true, if_false]
        rcases h2 with ⟨a, b, c, rfl⟩ | ⟨a, b, rfl⟩ | ⟨a, b, rfl⟩ | ⟨a, b, rfl⟩
        · exact absurd b g
        · rfl
        · exact absurd hn a
        · exact absurd hn a
    · obtain ⟨q, h3, h4⟩ := natural_f s 12 (by omega)
      have h5 := h3 k (by omega)
      rw [h6] at h5
      have h8 : impl_ParseInt.f (k + 1) s = some q := by
        simp only [impl_ParseInt.f, impl_ParseInt.j0]
        by_cases h0 : 0 < s.size
        · have hb : (bt s 0 == 45) = false := beq_eq_false_iff_ne.mpr (fun e => hn ⟨h0, e⟩)
          rw [if_pos (by omega), if_pos (by omega), hb, if_neg (by simp), h5]; rfl
        · rw [if_neg (by omega), if_neg (by simp), h5]; rfl
      rw [h8]
      rcases h2 with ⟨a, b, c, rfl⟩ | ⟨a, b, rfl⟩ | ⟨a, b, rfl⟩ | ⟨a, b, rfl⟩
      · exact absurd a hn
      · exact absurd a hn
      · rcases h4 with ⟨_, rfl⟩ | ⟨g, _⟩
        · rfl
        · exact absurd b g
      · rcases h4 with ⟨g, _⟩ | ⟨_, rfl⟩
        · exact absurd g b
        · rfl

theorem impl_digits (d : Nat) (hd : d ≤ 100) : ∀ (k n : Nat), n < 10 ^ (d + 1) → n ≤ 18446744073709551615 → d < k → impl_digitsOf.f k (n : Int) = some (dgs n) := by
  induction d with
  | zero =>
    intro k n h hu hk
    obtain ⟨k, rfl⟩ := succ_of hk
    simp only [impl_digitsOf.f]
    rw [if_pos (by omega), dgs, if_pos (by omega), IntKind.wrap_u64]
    have e : ((48 + (n : Int)) % 18446744073709551616) % 256 = 48 + (n : Int) := by omega
    rw [e]
  | succ d ih =>
    intro k n h hu hk
    obtain ⟨k, rfl⟩ := succ_of hk
    simp only [impl_digitsOf.f]
    by_cases h10 : n < 10
    · rw [if_pos (by omega), dgs, if_pos h10, IntKind.wrap_u64]
      have e : ((48 + (n : Int)) % 18446744073709551616) % 256 = 48 + (n : Int) := by omega
      rw [e]
    · have hp : n / 10 < 10 ^ (d + 1) := by rw [Nat.pow_succ] at h; omega
      have hz := dgs_size d (n / 10) hp
      rw [if_neg (by omega), Int.tdiv_eq_ediv_of_nonneg (by omega), Int.tmod_eq_emod_of_nonneg (by omega)]
      have e1 : IntKind.u64.wrap ((n : Int) / 10) = ((n / 10 : Nat) : Int) := by rw [IntKind.wrap_u64]; omega
      have e2 : (IntKind.u64.wrap (48 + (n : Int) % 10)) % 256 = 48 + ((n % 10 : Nat) : Int) := by rw [IntKind.wrap_u64]; omega
      rw [e1, e2, ih (by omega) k (n / 10) hp (by omega) (by omega)]
      simp only [Option.bind_some]
      rw [if_pos (by rw [strOfNums_size]; simp; omega)]
      conv => rhs; rw [dgs, if_neg h10]

theorem fmt_impl (a : Int) (h1 : -9223372036854775808 ≤ a) (h2 : a ≤ 9223372036854775807) (k : Nat) (hk : 40 < k) : impl_FormatInt.f k a = some (fmt a) := by
  have big : a.natAbs < 10 ^ 20 := by
    have : a.natAbs ≤ 9223372036854775808 := by omega
    omega
  have hz := dgs_size 19 a.natAbs big
  have hd := impl_digits 19 (by omega) k a.natAbs big (by omega) (by omega)
  unfold impl_FormatInt.f fmt
  by_cases h : a < 0
  · have e : IntKind.u64.wrap (-(IntKind.u64.wrap a)) = (a.natAbs : Int) := by rw [IntKind.wrap_u64, IntKind.wrap_u64]; omega
    rw [if_pos h, e, hd]
    simp only [Option.bind_some]
    rw [if_pos (by omega)]
    simp [h]
  · have e : IntKind.u64.wrap a = (a.natAbs : Int) := by rw [IntKind.wrap_u64]; omega
    rw [if_neg h, e, hd]
    simp [h]
    exact ByteArray.empty_append.symm

theorem and255 (n : Int) : Go.bits .and .i64 n 255 = n % 256 := by
  have h255 : (BitVec.ofInt 64 255).toNat = 2 ^ 8 - 1 := by decide
  have key : (BitVec.ofInt 64 n &&& BitVec.ofInt 64 255).toNat = (n % ((2 ^ 64 : Nat) : Int)).toNat % 2 ^ 8 := by
    rw [BitVec.toNat_and, BitVec.toNat_ofInt, h255, Nat.and_two_pow_sub_one_eq_mod]
  show IntKind.i64.wrap ((BitVec.ofInt 64 n &&& BitVec.ofInt 64 255).toNat : Nat) = n % 256
  rw [key, IntKind.wrap_i64]
  omega

theorem new_loop (l : List Int) (hl : l.length * 1 ≤ 140737488351232) (d : Nat) : ∀ (h i : Int), 0 ≤ i → i + d = l.length → ∃ z, ∀ k, d < k → spec_l1New.l0 k l h i = some (l, 0, z) := by
  induction d with
  | zero =>
    intro h i h0 h1
    refine ⟨h, fun k hk => ?_⟩
    obtain ⟨k, rfl⟩ : ∃ m, k = m + 1 := ⟨k - 1, by omega⟩
    simp only [spec_l1New.l0]
    rw [if_neg (by omega)]
  | succ d ih =>
    intro h i h0 h1
    have e : wrap64 (i + 1) = i + 1 := by unfold wrap64; omega
    by_cases h4 : i < 4000
    · obtain ⟨z, hz⟩ := ih (Go.bits .and .i64 (wrap64 ((wrap64 ((wrap64 (h * 131)) + (wrap64 (rd l i)))) + 7)) 1073741823) (i + 1) (by omega) (by omega)
      refine ⟨z, fun k hk => ?_⟩
      obtain ⟨k, rfl⟩ : ∃ m, k = m + 1 := ⟨k - 1, by omega⟩
      simp only [spec_l1New.l0]
      rw [if_pos (by omega), if_pos h4, if_pos h0, e]
      exact hz k (by omega)
    · refine ⟨h, fun k hk => ?_⟩
      obtain ⟨k, rfl⟩ : ∃ m, k = m + 1 := ⟨k - 1, by omega⟩
      simp only [spec_l1New.l0]
      rw [if_pos (by omega), if_neg h4]

theorem new_f (l : List Int) (hl : l.length * 1 ≤ 140737488351232) : ∃ z, ∀ k, l.length < k → spec_l1New.f k l = some (l, 0, z) := by
  obtain ⟨z, hz⟩ := new_loop l hl l.length (wrap64 (26583 + (l.length : Int))) 0 (by omega) (by omega)
  exact ⟨z, fun k hk => hz k hk⟩

theorem byte_f (l : List Int) (i h : Int) (h0 : 0 ≤ i) (hi : i ≤ l.length) (hl : l.length * 1 ≤ 140737488351232) : ∃ x j z, spec_l1Byte.f l i h = some (x, j, z) ∧ 0 ≤ x ∧ x ≤ 255 ∧ 0 ≤ j ∧ j ≤ l.length := by
  simp only [spec_l1Byte.f, and255]
  by_cases h4 : i < (l.length : Int)
  · have e : wrap64 (i + 1) = i + 1 := by unfold wrap64; omega
    rw [if_pos h4, if_pos h0, e]
    exact ⟨_, _, _, rfl, by omega, by omega, by omega, by omega⟩
  · rw [if_neg h4]
    exact ⟨_, _, _, rfl, by omega, by omega, h0, hi⟩

theorem below_f (l : List Int) (i h n : Int) (h0 : 0 ≤ i) (hi : i ≤ l.length) (hl : l.length * 1 ≤ 140737488351232) (hn : 0 < n) (hn' : n ≤ 256) : ∃ x j z, spec_l1Below.f l i h n = some (x, j, z) ∧ 0 ≤ x ∧ x < n ∧ 0 ≤ j ∧ j ≤ l.length := by
  obtain ⟨x, j, z, e, x0, x1, h1, h2⟩ := byte_f l i h h0 hi hl
  refine ⟨Int.tmod x n, j, z, ?_, ?_, ?_, h1, h2⟩
  · simp only [spec_l1Below.f]
    rw [if_neg (by omega), if_pos (by omega), e]
    simp only [Option.bind_some]
    rw [if_neg (by omega)]
  · rw [Int.tmod_eq_emod_of_nonneg x0]; exact Int.emod_nonneg _ (by omega)
  · rw [Int.tmod_eq_emod_of_nonneg x0]; exact Int.emod_lt_of_pos _ hn

theorem below_big (l : List Int) (i h n : Int) (h0 : 0 ≤ i) (hi : i ≤ l.length) (hl : l.length * 1 ≤ 140737488351232) (hn : 256 < n) : ∃ x j z, spec_l1Below.f l i h n = some (x, j, z) ∧ 0 ≤ j ∧ j ≤ l.length := by
  obtain ⟨x, j, z, e, _, _, h1, h2⟩ := byte_f l i h h0 hi hl
  obtain ⟨x', j', z', e', _, _, h1', h2'⟩ := byte_f l j z h1 h2 hl
  obtain ⟨x2, j2, z2, e2, _, _, h12, h22⟩ := byte_f l j' z' h1' h2' hl
  obtain ⟨x3, j3, z3, e3, _, _, h13, h23⟩ := byte_f l j2 z2 h12 h22 hl
  refine ⟨Int.tmod (wrap64 ((wrap64 ((wrap64 ((wrap64 (x * 16777216)) + (wrap64 (x' * 65536)))) + (wrap64 (x2 * 256)))) + x3)) n, j3, z3, ?_, h13, h23⟩
  simp only [spec_l1Below.f]
  rw [if_neg (by omega), if_neg (by omega), e]
  simp only [Option.bind_some]
  rw [e']
  simp only [Option.bind_some]
  rw [e2]
  simp only [Option.bind_some]
  rw [e3]
  simp only [Option.bind_some]
  rw [if_neg (by omega)]

theorem pick_f (l : List Int) (i h : Int) (h0 : 0 ≤ i) (hi : i ≤ l.length) (hl : l.length * 1 ≤ 140737488351232) (xs : List ByteArray) (hx : xs ≠ []) (hx' : xs.length ≤ 256) : ∃ s j z, spec_l1Pick.f l i h xs = some (s, j, z) ∧ s ∈ xs ∧ 0 ≤ j ∧ j ≤ l.length := by
  have hp : 0 < xs.length := List.length_pos_iff.mpr hx
  obtain ⟨x, j, z, e, x0, x1, h1, h2⟩ := below_f l i h xs.length h0 hi hl (by omega) (by omega)
  obtain ⟨n, rfl⟩ := Int.eq_ofNat_of_zero_le x0
  have hn : n < xs.length := by omega
  refine ⟨xs[n], j, z, ?_, List.getElem_mem hn, h1, h2⟩
  simp only [spec_l1Pick.f, e, Option.bind_some]
  rw [if_pos (by omega), if_pos (by omega)]
  simp [rdOf, hn]

theorem pickInt_f (l : List Int) (i h : Int) (h0 : 0 ≤ i) (hi : i ≤ l.length) (hl : l.length * 1 ≤ 140737488351232) (xs : List Int) (hx : xs ≠ []) (hx' : xs.length ≤ 256) : ∃ s j z, spec_l1PickInt.f l i h xs = some (s, j, z) ∧ s ∈ xs ∧ 0 ≤ j ∧ j ≤ l.length := by
  have hp : 0 < xs.length := List.length_pos_iff.mpr hx
  obtain ⟨x, j, z, e, x0, x1, h1, h2⟩ := below_f l i h xs.length h0 hi hl (by omega) (by omega)
  obtain ⟨n, rfl⟩ := Int.eq_ofNat_of_zero_le x0
  have hn : n < xs.length := by omega
  refine ⟨xs[n], j, z, ?_, List.getElem_mem hn, h1, h2⟩
  simp only [spec_l1PickInt.f, e, Option.bind_some]
  rw [if_pos (by omega), if_pos (by omega)]
  simp [rd, hn]

theorem dgs_bytes (n : Nat) (h : 10 ≤ n) : bytesOf (dgs n) = bytesOf (dgs (n / 10)) ++ [48 + ((n % 10 : Nat) : Int)] := by
  rw [dgs, if_neg (by omega), bytes_append, bytes_one _ (by omega)]

theorem bt_of (t : ByteArray) (j : Nat) (h : j < t.size) (c : Int) (hc : (bytesOf t)[j]? = some c) : bt t (j : Int) = c := by
  have := bytes_get t j h
  rw [this] at hc
  exact Option.some.inj hc

theorem dgs_props (n : Nat) : 1 ≤ (dgs n).size ∧ alld (dgs n) ∧ ((dgs n).size = 1 ∨ bt (dgs n) 0 ≠ 48) ∧ val (bytesOf (dgs n)) = n := by
  induction n using Nat.strongRecOn with
  | _ n ih =>
    by_cases h : n < 10
    · have e : bytesOf (dgs n) = [48 + (n : Int)] := by rw [dgs, if_pos h, bytes_one _ h]
      have s : (dgs n).size = 1 := by
        have := congrArg List.length e
        rw [bytesOf_length] at this
        simpa using this
      refine ⟨by omega, fun j hj => ?_, .inl s, ?_⟩
      · obtain rfl : j = 0 := by omega
        rw [bt_of (dgs n) 0 (by omega) (48 + (n : Int)) (by rw [e]; rfl)]
        unfold isd; omega
      · rw [e]; simp [val]; omega
    · have e := dgs_bytes n (by omega)
      obtain ⟨h1, h2, h3, h4⟩ := ih (n / 10) (by omega)
      have s : (dgs n).size = (dgs (n / 10)).size + 1 := by
        have := congrArg List.length e
        rw [List.length_append, bytesOf_length, bytesOf_length] at this
        simpa using this
      have old : ∀ j, j < (dgs (n / 10)).size → bt (dgs n) (j : Nat) = bt (dgs (n / 10)) (j : Nat) := by
        intro j hj
        apply bt_of _ _ (by omega)
        rw [e, List.getElem?_append_left (by rw [bytesOf_length]; exact hj)]
        exact bytes_get _ _ hj
      refine ⟨by omega, fun j hj => ?_, .inr ?_, ?_⟩
      · by_cases hj' : j < (dgs (n / 10)).size
        · rw [old j hj']; exact h2 j hj'
        · obtain rfl : j = (dgs (n / 10)).size := by omega
          rw [bt_of (dgs n) _ (by omega) (48 + ((n % 10 : Nat) : Int)) (by rw [e, List.getElem?_append_right (by rw [bytesOf_length]; omega), bytesOf_length]; simp)]
          unfold isd; omega
      · have o := old 0 (by omega)
        rw [Int.natCast_zero] at o
        rw [o]
        rcases h3 with h3 | h3
        · have hv := h4
          intro hb
          have hl : bytesOf (dgs (n / 10)) = [48] := by
            have g := bytes_get (dgs (n / 10)) 0 (by omega)
            rw [Int.natCast_zero, hb] at g
            have hlen : (bytesOf (dgs (n / 10))).length = 1 := by rw [bytesOf_length]; exact h3
            obtain ⟨c, hc⟩ := List.length_eq_one_iff.mp hlen
            rw [hc] at g ⊢
            simpa using g
          rw [hl] at hv
          simp [val] at hv
          omega
        · exact h3
      · rw [e, val_snoc, h4]; omega

theorem pre_all (t : ByteArray) : pre t t.size = val (bytesOf t) := by
  unfold pre
  rw [List.take_of_length_le (by rw [bytesOf_length]; omega)]

theorem whole_f (l : List Int) (i h : Int) (h0 : 0 ≤ i) (hi : i ≤ l.length) (hl : l.length * 1 ≤ 140737488351232) : ∃ x j z, spec_l1Whole.f l i h = some (x, j, z) ∧ -9223372036854775808 ≤ x ∧ x ≤ 9223372036854775807 ∧ 0 ≤ j ∧ j ≤ l.length := by
  obtain ⟨a, j1, z1, e1, a0, a1, b0, b1⟩ := below_f l i h 3 h0 hi hl (by omega) (by omega)
  unfold spec_l1Whole.f
  rw [e1]
  simp only [Option.bind_some]
  by_cases c0 : a = 0
  · obtain ⟨x, j, z, e2, hx, d0, d1⟩ := pickInt_f l j1 z1 b0 b1 hl [0, 1, (-1), 9, 10, 999999, 1000000, 999999999999, 1000000000000, (-999999999999), 9223372036854775807, (-9223372036854775808)] (by simp) (by simp)
    refine ⟨x, j, z, by rw [if_pos c0, e2]; rfl, ?_, ?_, d0, d1⟩
    · simp only [List.mem_cons, List.not_mem_nil, or_false] at hx; omega
    · simp only [List.mem_cons, List.not_mem_nil, or_false] at hx; omega
  · by_cases c1 : a = 1
    · obtain ⟨x, j, z, e2, d0, d1⟩ := below_big l j1 z1 1000000 b0 b1 hl (by omega)
      refine ⟨wrap64 (x - 500000), j, z, by rw [if_neg c0, if_pos c1, e2]; rfl, ?_, ?_, d0, d1⟩ <;> unfold wrap64 <;> omega
    · obtain ⟨x, j, z, e2, x0, x1, d0, d1⟩ := below_f l j1 z1 20 b0 b1 hl (by omega) (by omega)
      refine ⟨x, j, z, by rw [if_neg c0, if_neg c1, e2]; rfl, ?_, ?_, d0, d1⟩ <;> omega

theorem bytes_fmt_neg (n : Int) (h : n < 0) : bytesOf (fmt n) = 45 :: bytesOf (dgs n.natAbs) := by
  unfold fmt
  rw [if_pos h, bytes_append]; rfl

/-- What the program reads out of a whole number's text. -/
theorem read_fmt (n : Int) : ∃ r, (∀ k, (fmt n).size + 80 < k → impl_ParseInt.f k (fmt n) = some r) ∧
    ((0 ≤ n ∧ (fmt n).size ≤ 12 ∧ r = (n, true)) ∨ (0 ≤ n ∧ ¬ (fmt n).size ≤ 12 ∧ r = (0, false)) ∨ (n < 0 ∧ (fmt n).size ≤ 13 ∧ r = (n, true)) ∨ (n < 0 ∧ ¬ (fmt n).size ≤ 13 ∧ r = (0, false))) := by
  obtain ⟨r, h1, h2⟩ := int_i (fmt n)
  refine ⟨r, h1, ?_⟩
  by_cases h0 : 0 ≤ n
  · have e := fmt_nat n h0
    obtain ⟨p1, p2, p3, p4⟩ := dgs_props n.toNat
    rw [← e] at p1 p2 p3 p4
    have hp := pre_all (fmt n)
    have hn : ¬ negs (fmt n) := by
      intro q
      have h3 := (p2 0 (by omega)).1
      have h4 := q.2
      rw [Int.natCast_zero] at h3
      omega
    rcases h2 with ⟨a, _⟩ | ⟨a, _⟩ | ⟨_, b, rfl⟩ | ⟨_, b, rfl⟩
    · exact absurd a hn
    · exact absurd a hn
    · exact .inl ⟨h0, b.2.1, by rw [hp, p4, Int.toNat_of_nonneg h0]⟩
    · exact .inr (.inl ⟨h0, fun q => b ⟨p1, q, p2, p3⟩, rfl⟩)
  · have hb := bytes_fmt_neg n (by omega)
    have hs : 0 < (fmt n).size := by
      have := congrArg List.length hb
      rw [bytesOf_length] at this
      simp at this; omega
    have hn : negs (fmt n) := ⟨hs, bt_of (fmt n) 0 hs 45 (by rw [hb]; rfl)⟩
    have e : body (fmt n) = dgs n.natAbs := by
      apply bytes_inj
      have := body_bytes (fmt n) hn
      rw [hb] at this
      exact (List.cons.inj this).2.symm
    obtain ⟨p1, p2, p3, p4⟩ := dgs_props n.natAbs
    rw [← e] at p1 p2 p3 p4
    have hp := pre_all (body (fmt n))
    have hz := body_size (fmt n) hn
    rcases h2 with ⟨_, b, c, rfl⟩ | ⟨_, b, rfl⟩ | ⟨a, _⟩ | ⟨a, _⟩
    · have := b.2.1
      exact .inr (.inr (.inl ⟨by omega, by omega, by rw [hp, p4]; congr 1; omega⟩))
    · refine .inr (.inr (.inr ⟨by omega, fun q => b ⟨⟨p1, by omega, p2, p3⟩, ?_⟩, rfl⟩))
      rw [hp, p4]; omega
    · exact absurd hn a
    · exact absurd hn a

/-- The drawn text. -/
theorem drawn_f (l : List Int) (hl : l.length * 1 ≤ 140737488351232) : ∃ s, ∀ k, l.length + 40 < k → spec_DrawParseNumber.f k l = some s := by
  obtain ⟨z, hz⟩ := new_f l hl
  obtain ⟨a, j, h, e, _, _, j0, j1⟩ := below_f l 0 z 2 (by omega) (by omega) hl (by omega) (by omega)
  by_cases c : (a == 0) = true
  · obtain ⟨x, j', h', e', x0, x1, _, _⟩ := whole_f l j h j0 j1 hl
    refine ⟨fmt x, fun k hk => ?_⟩
    simp only [spec_DrawParseNumber.f, hz k (by omega), Option.bind_some, spec_l1Once.f, e, c, if_true, e', fmt_spec x x0 x1 k (by omega)]
  · obtain ⟨x, j', h', e', _, _, _⟩ := pick_f l j h j0 j1 hl [(⟨#[]⟩ : ByteArray), (⟨#[48, 48]⟩ : ByteArray), (⟨#[48, 49]⟩ : ByteArray), (⟨#[45, 49]⟩ : ByteArray), (⟨#[43, 49]⟩ : ByteArray), (⟨#[120]⟩ : ByteArray), (⟨#[57, 57, 57, 57, 57, 57]⟩ : ByteArray), (⟨#[49, 48, 48, 48, 48, 48, 48]⟩ : ByteArray), (⟨#[45, 48]⟩ : ByteArray), (⟨#[45]⟩ : ByteArray), (⟨#[32, 49]⟩ : ByteArray), (⟨#[49, 32]⟩ : ByteArray)] (by simp) (by simp)
    refine ⟨x, fun k hk => ?_⟩
    simp only [spec_DrawParseNumber.f, hz k (by omega), Option.bind_some, spec_l1Once.f, e, c, Bool.false_eq_true, if_false, e']

/-- The second half. -/
theorem half (l : List Int) (hl : l.length * 1 ≤ 140737488351232) : ∃ m, ∀ k, m < k → laws_FnNumbers.j0 k l false = some true := by
  obtain ⟨s, hs⟩ := drawn_f l hl
  obtain ⟨r, h1, h2⟩ := number_f s
  refine ⟨l.length + s.size + 200, fun k hk => ?_⟩
  obtain ⟨k, rfl⟩ := succ_of (show 0 < k by omega)
  have h3 := h1 k (by omega)
  simp only [laws_FnNumbers.j0, Bool.false_eq_true, if_false, hs k (by omega), Option.bind_some, h3.1, h3.2, beq_self_eq_true, if_true]
  rcases h2 with ⟨g, rfl⟩ | ⟨g, rfl⟩
  · have h0 := pre_bound s s.size (by omega) g.2.2.1
    have hp : (10 : Int) ^ s.size ≤ 10 ^ 6 := by
      have : 10 ^ s.size ≤ 10 ^ 6 := Nat.pow_le_pow_right (by omega) g.2.1
      have h8 : ((10 ^ s.size : Nat) : Int) ≤ ((10 ^ 6 : Nat) : Int) := by omega
      rwa [Int.natCast_pow, Int.natCast_pow] at h8
    have hp2 : (10 : Int) ^ 6 = 1000000 := by decide
    have e : fmt (pre s s.size) = s := by rw [fmt_nat _ h0.1]; exact (dgs_iff s g.2.2.1 g.1).mpr g.2.2.2
    simp only [if_true, fmt_impl (pre s s.size) (by omega) (by omega) k (by omega), Option.bind_some, e]
    simp; exact h0.1
  · simp only [Bool.false_eq_true, if_false]

theorem FnNumbers : laws_FnNumbers.Pure := by
  intro l0 q0 q1 q2
  by_cases hb : laws_big.f l0 = some true
  · exact ⟨1, by simp only [laws_FnNumbers.f, hb, Option.bind_some, if_true]⟩
  have hb' : laws_big.f l0 = some false := by
    revert hb
    unfold laws_big.f
    cases decide ((l0.length : Int) > 1048576) <;> simp
  obtain ⟨z, hz⟩ := new_f l0 q1
  obtain ⟨n, j, h, e, n0, n1, _, _⟩ := whole_f l0 0 z (by omega) (by omega) q1
  obtain ⟨r, h1, h2⟩ := read_fmt n
  obtain ⟨m, hm⟩ := half l0 q1
  refine ⟨l0.length + (fmt n).size + m + 200, ?_⟩
  have hm' := hm (l0.length + (fmt n).size + m + 200) (by omega)
  simp only [laws_FnNumbers.f, hb', Option.bind_some, Bool.false_eq_true, if_false, spec_DrawFormatInt.f, hz _ (show l0.length < l0.length + (fmt n).size + m + 200 by omega), e, fmt_impl n n0 n1 _ (show 40 < l0.length + (fmt n).size + m + 200 by omega), fmt_spec n n0 n1 _ (show 40 < l0.length + (fmt n).size + m + 200 by omega), h1 _ (show (fmt n).size + 80 < l0.length + (fmt n).size + m + 200 by omega), if_true]
  rcases h2 with ⟨a, b, rfl⟩ | ⟨a, b, rfl⟩ | ⟨a, b, rfl⟩ | ⟨a, b, rfl⟩
  · rw [if_pos (by omega)]
    simp [hm']
  · rw [if_neg (by omega), if_neg (by omega)]
    simp [hm']
  · by_cases c : (fmt n).size ≤ 12
    · rw [if_pos (by omega)]
      simp [hm']
    · rw [if_neg (by omega), if_pos (by omega)]
      have d : decide (((fmt n).size : Int) ≤ 13) = true := by simp; omega
      simp [hm', d]
  · rw [if_neg (by omega), if_pos (by omega)]
    have d : decide (((fmt n).size : Int) ≤ 13) = false := by simp; omega
    simp [hm', d]

end Go.Proofs.Yteagmmcglbcifaa.Pure
