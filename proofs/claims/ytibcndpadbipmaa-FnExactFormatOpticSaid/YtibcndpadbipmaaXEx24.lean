-- Written by myprint.py, a program of this session, which runs the kit's printer with changes of its own. Lean checks it.
import Derived.Test.YtibcndpadbipmaaXEx0
import Derived.Test.YtibcndpadbipmaaXEx23
namespace Go.Proofs.Ytibcndpadbipmaa.XE
open Go.RowKit Go.Proofs.YtibcndpadbipmaaW.PrintWords Go.Proofs.YtibcndpadbipmaaW.PrintLast Go.Proofs.YtibcndpadbipmaaW.PrintMore
attribute [local go_sem] max2_int min2_int max_two min_two max_three min_three max_four min_four   -- for this text's walks alone
set_option linter.unusedVariables false
set_option linter.unusedSimpArgs false

/-! ### impl_opticText: function 58 -/
def impl_opticText.f : Nat → Int → ByteArray → Int → List (S29) → Option (ByteArray)
  | 0, _, _, _, _ => none
  | k + 1, a0_0, a0_1, a0_2, l0_3 => if a0_0 = 1 then (some (⟨#[105, 100]⟩ : ByteArray)) else (if a0_0 = 2 then (if 1 + a0_1.size ≤ 9223372036854775807 then (some ((⟨#[46]⟩ : ByteArray) ++ a0_1)) else (none)) else (if a0_0 = 3 then (if 1 + a0_1.size ≤ 9223372036854775807 then (some ((⟨#[63]⟩ : ByteArray) ++ a0_1)) else (none)) else (if a0_0 = 4 then (some (⟨#[101, 97, 99, 104]⟩ : ByteArray)) else (if a0_0 = 5 then (some (⟨#[97, 108, 108]⟩ : ByteArray)) else (if a0_0 = 6 then ((impl_FormatInt.f k a0_2).bind fun t652 => (if 3 + t652.size ≤ 9223372036854775807 then (some ((⟨#[97, 116, 32]⟩ : ByteArray) ++ t652)) else (none))) else (if a0_0 = 7 then ((impl_FormatInt.f k a0_2).bind fun t653 => (if 4 + t653.size ≤ 9223372036854775807 then (some ((⟨#[97, 100, 100, 32]⟩ : ByteArray) ++ t653)) else (none))) else (if a0_0 = 8 then (some (⟨#[110, 111, 116]⟩ : ByteArray)) else (if a0_0 = 9 then (some (⟨#[114, 101, 118]⟩ : ByteArray)) else (if a0_0 = 10 then (if 5 + a0_1.size ≤ 9223372036854775807 then (some ((⟨#[119, 114, 97, 112, 32]⟩ : ByteArray) ++ a0_1)) else (none)) else (if a0_0 = 11 then (if 0 < (l0_3.length : Int) then ((impl_opticText.f k ((rd_T29 l0_3 0).f0) ((rd_T29 l0_3 0).f1) ((rd_T29 l0_3 0).f2) ((rd_T29 l0_3 0).f3)).bind fun t655 => (if 4 + t655.size ≤ 9223372036854775807 then (some ((⟨#[109, 97, 112, 32]⟩ : ByteArray) ++ t655)) else (none))) else (none)) else (if a0_0 = 12 then (if 0 < (l0_3.length : Int) then ((impl_opticText.f k ((rd_T29 l0_3 0).f0) ((rd_T29 l0_3 0).f1) ((rd_T29 l0_3 0).f2) ((rd_T29 l0_3 0).f3)).bind fun t657 => (if 1 + t657.size ≤ 9223372036854775807 then (if ((⟨#[40]⟩ : ByteArray) ++ t657).size + 1 ≤ 9223372036854775807 then (if 1 < (l0_3.length : Int) then ((impl_opticText.f k ((rd_T29 l0_3 1).f0) ((rd_T29 l0_3 1).f1) ((rd_T29 l0_3 1).f2) ((rd_T29 l0_3 1).f3)).bind fun t659 => (if (((⟨#[40]⟩ : ByteArray) ++ t657) ++ (⟨#[59]⟩ : ByteArray)).size + t659.size ≤ 9223372036854775807 then (if ((((⟨#[40]⟩ : ByteArray) ++ t657) ++ (⟨#[59]⟩ : ByteArray)) ++ t659).size + 1 ≤ 9223372036854775807 then (some (((((⟨#[40]⟩ : ByteArray) ++ t657) ++ (⟨#[59]⟩ : ByteArray)) ++ t659) ++ (⟨#[41]⟩ : ByteArray))) else (none)) else (none))) else (none)) else (none)) else (none))) else (none)) else (if 0 < (l0_3.length : Int) then ((impl_opticText.f k ((rd_T29 l0_3 0).f0) ((rd_T29 l0_3 0).f1) ((rd_T29 l0_3 0).f2) ((rd_T29 l0_3 0).f3)).bind fun t661 => (if 1 + t661.size ≤ 9223372036854775807 then (if ((⟨#[40]⟩ : ByteArray) ++ t661).size + 1 ≤ 9223372036854775807 then (if 1 < (l0_3.length : Int) then ((impl_opticText.f k ((rd_T29 l0_3 1).f0) ((rd_T29 l0_3 1).f1) ((rd_T29 l0_3 1).f2) ((rd_T29 l0_3 1).f3)).bind fun t663 => (if (((⟨#[40]⟩ : ByteArray) ++ t661) ++ (⟨#[124]⟩ : ByteArray)).size + t663.size ≤ 9223372036854775807 then (if ((((⟨#[40]⟩ : ByteArray) ++ t661) ++ (⟨#[124]⟩ : ByteArray)) ++ t663).size + 1 ≤ 9223372036854775807 then (some (((((⟨#[40]⟩ : ByteArray) ++ t661) ++ (⟨#[124]⟩ : ByteArray)) ++ t663) ++ (⟨#[41]⟩ : ByteArray))) else (none)) else (none))) else (none)) else (none)) else (none))) else (none)))))))))))))
theorem impl_opticText.mono_l : ∀ k, (∀ y0 y1 y2 y3, LeO (impl_opticText.f k y0 y1 y2 y3) (impl_opticText.f (k + 1) y0 y1 y2 y3))
  | 0 => fun _ _ _ _ r h => by simp [impl_opticText.f] at h
  | k + 1 => by
    have ih0 := impl_opticText.mono_l k
    · intro y0 y1 y2 y3
      unfold impl_opticText.f
      repeat' first
      | (with_reducible exact ih0 _ _ _ _)
      | (with_reducible exact impl_FormatInt.mono _ _)
      | (with_reducible exact LeO.refl _)
      | (with_reducible exact LeO.none _)
      | (with_reducible refine LeO.ite ?_ ?_)
      | (with_reducible refine LeO.bind ?_ (fun _ => ?_))
      | exact ih0 _ _ _ _
      | exact impl_FormatInt.mono _ _
      | exact LeO.none _
      | refine LeO.ite ?_ ?_
      | refine LeO.bind ?_ (fun _ => ?_)
theorem impl_opticText.mono : ∀ a0 a1 a2 a3 k, LeO (impl_opticText.f k a0 a1 a2 a3) (impl_opticText.f (k + 1) a0 a1 a2 a3) := by
  intro a0 a1 a2 a3 k
  have ih0 := impl_opticText.mono_l k
  exact ih0 a0 a1 a2 a3
def impl_opticText.T25 : Bool × List (List Nat × List Nat) := (true, [([], []), ([0], [0]), ([1], [1]), ([2], [2]), ([3], [3]), ([4], [4]), ([5], [5]), ([], []), ([7], [7]), ([8], [8]), ([9], [9]), ([10, 4], [10]), ([6, 11], [6, 11]), ([12], [12]), ([13, 11, 0, 1, 2, 3, 4, 5, 6, 7, 8, 9, 10, 11, 12, 13], [13])])
def impl_opticText.B25 : List Nat := [0, 1, 3, 7, 15, 31, 63, 0, 128, 384, 896, 1951, 4095, 8191, 16383]
theorem impl_opticText.tab25 : rtab .any (opsOf Try.f58 25) = impl_opticText.T25 := by kernel_rfl
theorem impl_opticText.bits25 : waitsOk impl_opticText.T25.2 impl_opticText.B25 = true := by kernel_rfl
def impl_opticText.T26 : Bool × List (List Nat × List Nat) := (true, [([], []), ([0], [0]), ([1], [1]), ([2], [2]), ([3], [3]), ([4], [4]), ([5], [5]), ([], []), ([7], [7]), ([8], [8]), ([9], [9]), ([10, 4], [10]), ([6, 11], [6, 11]), ([12], [12]), ([13, 11, 0, 1, 2, 3, 4, 5, 6, 7, 8, 9, 10, 11, 12, 13], [13])])
def impl_opticText.B26 : List Nat := [0, 1, 3, 7, 15, 31, 63, 0, 128, 384, 896, 1951, 4095, 8191, 16383]
theorem impl_opticText.tab26 : rtab .any (opsOf Try.f58 26) = impl_opticText.T26 := by kernel_rfl
theorem impl_opticText.bits26 : waitsOk impl_opticText.T26.2 impl_opticText.B26 = true := by kernel_rfl
set_option maxHeartbeats 8000000 in
set_option maxRecDepth 100000 in
theorem impl_opticText.calls (k : Nat) : ∀ (a0_0 : Int) (a0_1 : ByteArray) (a0_2 : Int) (A0_3 : Option Addr) (c0_3 : Nat) (l0_3 : List (S29)) (r : ByteArray) (w : World) (hr0_3 : Kd.C k29 w A0_3 l0_3.length l0_3) (hc0_3 : l0_3.length ≤ c0_3) (h : impl_opticText.f k a0_0 a0_1 a0_2 l0_3 = some r),
    Calls Try.prog 58 #[.agg #[.int .i64 a0_0, .string a0_1, .int .i64 a0_2, .slice A0_3 l0_3.length c0_3]] w fun e w' => e = .returned (.string r) ∧ Below w.heap.size w w' := by
  induction k using Nat.strongRecOn with
  | _ k ih =>
  intro a0_0 a0_1 a0_2 A0_3 c0_3 l0_3 r w hr0_3 hc0_3 h
  cases k with
  | zero => exact absurd h (by simp [impl_opticText.f])
  | succ k =>
  simp only [impl_opticText.f] at h
  have hu29 := Try.underlying29
  have HR0_3 := Aside0.mk hr0_3
  have HC0_3 := Aside0.mk hc0_3
  clear hr0_3 hc0_3
  have HB := Aside0.mk (Below.refl w.heap.size w)
  have H : (if a0_0 = 1 then (some (⟨#[105, 100]⟩ : ByteArray)) else (if a0_0 = 2 then (if 1 + a0_1.size ≤ 9223372036854775807 then (some ((⟨#[46]⟩ : ByteArray) ++ a0_1)) else (none)) else (if a0_0 = 3 then (if 1 + a0_1.size ≤ 9223372036854775807 then (some ((⟨#[63]⟩ : ByteArray) ++ a0_1)) else (none)) else (if a0_0 = 4 then (some (⟨#[101, 97, 99, 104]⟩ : ByteArray)) else (if a0_0 = 5 then (some (⟨#[97, 108, 108]⟩ : ByteArray)) else (if a0_0 = 6 then ((impl_FormatInt.f k a0_2).bind fun t652 => (if 3 + t652.size ≤ 9223372036854775807 then (some ((⟨#[97, 116, 32]⟩ : ByteArray) ++ t652)) else (none))) else (if a0_0 = 7 then ((impl_FormatInt.f k a0_2).bind fun t653 => (if 4 + t653.size ≤ 9223372036854775807 then (some ((⟨#[97, 100, 100, 32]⟩ : ByteArray) ++ t653)) else (none))) else (if a0_0 = 8 then (some (⟨#[110, 111, 116]⟩ : ByteArray)) else (if a0_0 = 9 then (some (⟨#[114, 101, 118]⟩ : ByteArray)) else (if a0_0 = 10 then (if 5 + a0_1.size ≤ 9223372036854775807 then (some ((⟨#[119, 114, 97, 112, 32]⟩ : ByteArray) ++ a0_1)) else (none)) else (if a0_0 = 11 then (if 0 < (l0_3.length : Int) then ((impl_opticText.f k ((rd_T29 l0_3 0).f0) ((rd_T29 l0_3 0).f1) ((rd_T29 l0_3 0).f2) ((rd_T29 l0_3 0).f3)).bind fun t655 => (if 4 + t655.size ≤ 9223372036854775807 then (some ((⟨#[109, 97, 112, 32]⟩ : ByteArray) ++ t655)) else (none))) else (none)) else (if a0_0 = 12 then (if 0 < (l0_3.length : Int) then ((impl_opticText.f k ((rd_T29 l0_3 0).f0) ((rd_T29 l0_3 0).f1) ((rd_T29 l0_3 0).f2) ((rd_T29 l0_3 0).f3)).bind fun t657 => (if 1 + t657.size ≤ 9223372036854775807 then (if ((⟨#[40]⟩ : ByteArray) ++ t657).size + 1 ≤ 9223372036854775807 then (if 1 < (l0_3.length : Int) then ((impl_opticText.f k ((rd_T29 l0_3 1).f0) ((rd_T29 l0_3 1).f1) ((rd_T29 l0_3 1).f2) ((rd_T29 l0_3 1).f3)).bind fun t659 => (if (((⟨#[40]⟩ : ByteArray) ++ t657) ++ (⟨#[59]⟩ : ByteArray)).size + t659.size ≤ 9223372036854775807 then (if ((((⟨#[40]⟩ : ByteArray) ++ t657) ++ (⟨#[59]⟩ : ByteArray)) ++ t659).size + 1 ≤ 9223372036854775807 then (some (((((⟨#[40]⟩ : ByteArray) ++ t657) ++ (⟨#[59]⟩ : ByteArray)) ++ t659) ++ (⟨#[41]⟩ : ByteArray))) else (none)) else (none))) else (none)) else (none)) else (none))) else (none)) else (if 0 < (l0_3.length : Int) then ((impl_opticText.f k ((rd_T29 l0_3 0).f0) ((rd_T29 l0_3 0).f1) ((rd_T29 l0_3 0).f2) ((rd_T29 l0_3 0).f3)).bind fun t661 => (if 1 + t661.size ≤ 9223372036854775807 then (if ((⟨#[40]⟩ : ByteArray) ++ t661).size + 1 ≤ 9223372036854775807 then (if 1 < (l0_3.length : Int) then ((impl_opticText.f k ((rd_T29 l0_3 1).f0) ((rd_T29 l0_3 1).f1) ((rd_T29 l0_3 1).f2) ((rd_T29 l0_3 1).f3)).bind fun t663 => (if (((⟨#[40]⟩ : ByteArray) ++ t661) ++ (⟨#[124]⟩ : ByteArray)).size + t663.size ≤ 9223372036854775807 then (if ((((⟨#[40]⟩ : ByteArray) ++ t661) ++ (⟨#[124]⟩ : ByteArray)) ++ t663).size + 1 ≤ 9223372036854775807 then (some (((((⟨#[40]⟩ : ByteArray) ++ t661) ++ (⟨#[124]⟩ : ByteArray)) ++ t663) ++ (⟨#[41]⟩ : ByteArray))) else (none)) else (none))) else (none)) else (none)) else (none))) else (none)))))))))))))) = some r := h
  clear h
  by_cases c2 : a0_0 = 1
  · rw [if_pos c2] at H
    have c2b0 : (a0_0 == 1) = true := beq_iff_eq.mpr c2
    have c2b1 : (a0_0 != 1) = false := bne_eq_false_iff_eq.mpr c2
    clear c2
    obtain rfl := Option.some.inj H
    go_enter Try.func58, Try.ntmps58
    go_wp2_with (first | ((with_reducible refine gate_dst (N := 1) rfl ?_); refine box_event ?hg (N := 1) ?hd (cs := #[.int .i64 a0_0, .string a0_1, .int .i64 a0_2, .slice A0_3 l0_3.length c0_3]) (t := 29) ?hr ?_; (case hd => rfl); (case hg => rfl); (case hr => first | (go_simp; done) | (go_simp; rfl)); intro gb651 hg w3 hbox hb; have n0_ := Aside0.mk (below_step (by repeat (first | (with_reducible first | exact HB.out | apply below_alloc | apply pw_below_drewN | apply below_drew1) | exact HB.out)) hb); have n1_ := Aside0.mk (hbox); have n2_ := Aside0.mk ((by rw [hg]; exact (below_size (by repeat (first | (with_reducible first | exact HB.out | apply below_alloc | apply pw_below_drewN | apply below_drew1) | exact HB.out))) : w.heap.size ≤ gb651)); have n3_ := Aside0.mk ((by rw [hg]; exact (below_size (by repeat (first | (with_reducible first | exact HB.out | apply below_alloc | apply pw_below_drewN | apply below_drew1) | exact HB.out))) : w.heap.size ≤ gb651)); clear HB; have HB := n0_; have BK651 := n1_; have GW651 := n2_; have GE651 := n3_; clear n0_ n1_ n2_ n3_; clear hb hbox hg; have hcz4_0 : w3.cell? ⟨gb651, 0, none⟩ = some (.int .i64 a0_0) := (blk_cell BK651.out 0).trans rfl; have hcz4_1 : w3.cell? ⟨gb651, 1, none⟩ = some (.string a0_1) := (blk_cell BK651.out 1).trans rfl; have hcz4_2 : w3.cell? ⟨gb651, 2, none⟩ = some (.int .i64 a0_2) := (blk_cell BK651.out 2).trans rfl; have hcz4_3 : w3.cell? ⟨gb651, 3, none⟩ = some (.slice A0_3 l0_3.length c0_3) := (blk_cell BK651.out 3).trans rfl; have hfz4_0 := blk_frozen BK651.out 0; have hfz4_1 := blk_frozen BK651.out 1; have hfz4_2 := blk_frozen BK651.out 2; have hfz4_3 := blk_frozen BK651.out 3))
    go_ret
    exact ⟨by first | rfl | (simp [errW_none, errW_some] <;> rfl) | (simp [*, errW_none, errW_some] <;> rfl), by repeat (first | (with_reducible first | exact HB.out | apply below_alloc | apply pw_below_drewN | apply below_drew1 | refine below_set ?_ GE651.out) | exact HB.out)⟩
  · rw [if_neg c2] at H
    have c2b0 : (a0_0 == 1) = false := beq_eq_false_iff_ne.mpr c2
    have c2b1 : (a0_0 != 1) = true := bne_iff_ne.mpr c2
    by_cases c5 : a0_0 = 2
    · rw [if_pos c5] at H
      have c5b0 : (a0_0 == 2) = true := beq_iff_eq.mpr c5
      have c5b1 : (a0_0 != 2) = false := bne_eq_false_iff_eq.mpr c5
      clear c5
      by_cases c6 : 1 + a0_1.size ≤ 9223372036854775807
      · rw [if_pos c6] at H
        have c6b0 := eq_true c6
        have c6b1 : decide (1 + a0_1.size ≤ 9223372036854775807) = true := decide_eq_true c6
        try have c6b2 : (9223372036854775807 < 1 + a0_1.size) = False := eq_false (Nat.not_lt.2 c6)
        obtain rfl := Option.some.inj H
        go_enter Try.func58, Try.ntmps58
        go_wp2_with (first | ((with_reducible refine gate_dst (N := 1) rfl ?_); refine box_event ?hg (N := 1) ?hd (cs := #[.int .i64 a0_0, .string a0_1, .int .i64 a0_2, .slice A0_3 l0_3.length c0_3]) (t := 29) ?hr ?_; (case hd => rfl); (case hg => rfl); (case hr => first | (go_simp; done) | (go_simp; rfl)); intro gb651 hg w7 hbox hb; have n0_ := Aside0.mk (below_step (by repeat (first | (with_reducible first | exact HB.out | apply below_alloc | apply pw_below_drewN | apply below_drew1) | exact HB.out)) hb); have n1_ := Aside0.mk (hbox); have n2_ := Aside0.mk ((by rw [hg]; exact (below_size (by repeat (first | (with_reducible first | exact HB.out | apply below_alloc | apply pw_below_drewN | apply below_drew1) | exact HB.out))) : w.heap.size ≤ gb651)); have n3_ := Aside0.mk ((by rw [hg]; exact (below_size (by repeat (first | (with_reducible first | exact HB.out | apply below_alloc | apply pw_below_drewN | apply below_drew1) | exact HB.out))) : w.heap.size ≤ gb651)); clear HB; have HB := n0_; have BK651 := n1_; have GW651 := n2_; have GE651 := n3_; clear n0_ n1_ n2_ n3_; clear hb hbox hg; have hcz8_0 : w7.cell? ⟨gb651, 0, none⟩ = some (.int .i64 a0_0) := (blk_cell BK651.out 0).trans rfl; have hcz8_1 : w7.cell? ⟨gb651, 1, none⟩ = some (.string a0_1) := (blk_cell BK651.out 1).trans rfl; have hcz8_2 : w7.cell? ⟨gb651, 2, none⟩ = some (.int .i64 a0_2) := (blk_cell BK651.out 2).trans rfl; have hcz8_3 : w7.cell? ⟨gb651, 3, none⟩ = some (.slice A0_3 l0_3.length c0_3) := (blk_cell BK651.out 3).trans rfl; have hfz8_0 := blk_frozen BK651.out 0; have hfz8_1 := blk_frozen BK651.out 1; have hfz8_2 := blk_frozen BK651.out 2; have hfz8_3 := blk_frozen BK651.out 3))
        go_ret
        exact ⟨by first | rfl | (simp [errW_none, errW_some] <;> rfl) | (simp [*, errW_none, errW_some] <;> rfl), by repeat (first | (with_reducible first | exact HB.out | apply below_alloc | apply pw_below_drewN | apply below_drew1 | refine below_set ?_ GE651.out) | exact HB.out)⟩
      · rw [if_neg c6] at H
        exact absurd H (by simp)
    · rw [if_neg c5] at H
      have c5b0 : (a0_0 == 2) = false := beq_eq_false_iff_ne.mpr c5
      have c5b1 : (a0_0 != 2) = true := bne_iff_ne.mpr c5
      by_cases c9 : a0_0 = 3
      · rw [if_pos c9] at H
        have c9b0 : (a0_0 == 3) = true := beq_iff_eq.mpr c9
        have c9b1 : (a0_0 != 3) = false := bne_eq_false_iff_eq.mpr c9
        clear c9
        by_cases c10 : 1 + a0_1.size ≤ 9223372036854775807
        · rw [if_pos c10] at H
          have c10b0 := eq_true c10
          have c10b1 : decide (1 + a0_1.size ≤ 9223372036854775807) = true := decide_eq_true c10
          try have c10b2 : (9223372036854775807 < 1 + a0_1.size) = False := eq_false (Nat.not_lt.2 c10)
          obtain rfl := Option.some.inj H
          go_enter Try.func58, Try.ntmps58
          go_wp2_with (first | ((with_reducible refine gate_dst (N := 1) rfl ?_); refine box_event ?hg (N := 1) ?hd (cs := #[.int .i64 a0_0, .string a0_1, .int .i64 a0_2, .slice A0_3 l0_3.length c0_3]) (t := 29) ?hr ?_; (case hd => rfl); (case hg => rfl); (case hr => first | (go_simp; done) | (go_simp; rfl)); intro gb651 hg w11 hbox hb; have n0_ := Aside0.mk (below_step (by repeat (first | (with_reducible first | exact HB.out | apply below_alloc | apply pw_below_drewN | apply below_drew1) | exact HB.out)) hb); have n1_ := Aside0.mk (hbox); have n2_ := Aside0.mk ((by rw [hg]; exact (below_size (by repeat (first | (with_reducible first | exact HB.out | apply below_alloc | apply pw_below_drewN | apply below_drew1) | exact HB.out))) : w.heap.size ≤ gb651)); have n3_ := Aside0.mk ((by rw [hg]; exact (below_size (by repeat (first | (with_reducible first | exact HB.out | apply below_alloc | apply pw_below_drewN | apply below_drew1) | exact HB.out))) : w.heap.size ≤ gb651)); clear HB; have HB := n0_; have BK651 := n1_; have GW651 := n2_; have GE651 := n3_; clear n0_ n1_ n2_ n3_; clear hb hbox hg; have hcz12_0 : w11.cell? ⟨gb651, 0, none⟩ = some (.int .i64 a0_0) := (blk_cell BK651.out 0).trans rfl; have hcz12_1 : w11.cell? ⟨gb651, 1, none⟩ = some (.string a0_1) := (blk_cell BK651.out 1).trans rfl; have hcz12_2 : w11.cell? ⟨gb651, 2, none⟩ = some (.int .i64 a0_2) := (blk_cell BK651.out 2).trans rfl; have hcz12_3 : w11.cell? ⟨gb651, 3, none⟩ = some (.slice A0_3 l0_3.length c0_3) := (blk_cell BK651.out 3).trans rfl; have hfz12_0 := blk_frozen BK651.out 0; have hfz12_1 := blk_frozen BK651.out 1; have hfz12_2 := blk_frozen BK651.out 2; have hfz12_3 := blk_frozen BK651.out 3))
          go_ret
          exact ⟨by first | rfl | (simp [errW_none, errW_some] <;> rfl) | (simp [*, errW_none, errW_some] <;> rfl), by repeat (first | (with_reducible first | exact HB.out | apply below_alloc | apply pw_below_drewN | apply below_drew1 | refine below_set ?_ GE651.out) | exact HB.out)⟩
        · rw [if_neg c10] at H
          exact absurd H (by simp)
      · rw [if_neg c9] at H
        have c9b0 : (a0_0 == 3) = false := beq_eq_false_iff_ne.mpr c9
        have c9b1 : (a0_0 != 3) = true := bne_iff_ne.mpr c9
        by_cases c13 : a0_0 = 4
        · rw [if_pos c13] at H
          have c13b0 : (a0_0 == 4) = true := beq_iff_eq.mpr c13
          have c13b1 : (a0_0 != 4) = false := bne_eq_false_iff_eq.mpr c13
          clear c13
          obtain rfl := Option.some.inj H
          go_enter Try.func58, Try.ntmps58
          go_wp2_with (first | ((with_reducible refine gate_dst (N := 1) rfl ?_); refine box_event ?hg (N := 1) ?hd (cs := #[.int .i64 a0_0, .string a0_1, .int .i64 a0_2, .slice A0_3 l0_3.length c0_3]) (t := 29) ?hr ?_; (case hd => rfl); (case hg => rfl); (case hr => first | (go_simp; done) | (go_simp; rfl)); intro gb651 hg w14 hbox hb; have n0_ := Aside0.mk (below_step (by repeat (first | (with_reducible first | exact HB.out | apply below_alloc | apply pw_below_drewN | apply below_drew1) | exact HB.out)) hb); have n1_ := Aside0.mk (hbox); have n2_ := Aside0.mk ((by rw [hg]; exact (below_size (by repeat (first | (with_reducible first | exact HB.out | apply below_alloc | apply pw_below_drewN | apply below_drew1) | exact HB.out))) : w.heap.size ≤ gb651)); have n3_ := Aside0.mk ((by rw [hg]; exact (below_size (by repeat (first | (with_reducible first | exact HB.out | apply below_alloc | apply pw_below_drewN | apply below_drew1) | exact HB.out))) : w.heap.size ≤ gb651)); clear HB; have HB := n0_; have BK651 := n1_; have GW651 := n2_; have GE651 := n3_; clear n0_ n1_ n2_ n3_; clear hb hbox hg; have hcz15_0 : w14.cell? ⟨gb651, 0, none⟩ = some (.int .i64 a0_0) := (blk_cell BK651.out 0).trans rfl; have hcz15_1 : w14.cell? ⟨gb651, 1, none⟩ = some (.string a0_1) := (blk_cell BK651.out 1).trans rfl; have hcz15_2 : w14.cell? ⟨gb651, 2, none⟩ = some (.int .i64 a0_2) := (blk_cell BK651.out 2).trans rfl; have hcz15_3 : w14.cell? ⟨gb651, 3, none⟩ = some (.slice A0_3 l0_3.length c0_3) := (blk_cell BK651.out 3).trans rfl; have hfz15_0 := blk_frozen BK651.out 0; have hfz15_1 := blk_frozen BK651.out 1; have hfz15_2 := blk_frozen BK651.out 2; have hfz15_3 := blk_frozen BK651.out 3))
          go_ret
          exact ⟨by first | rfl | (simp [errW_none, errW_some] <;> rfl) | (simp [*, errW_none, errW_some] <;> rfl), by repeat (first | (with_reducible first | exact HB.out | apply below_alloc | apply pw_below_drewN | apply below_drew1 | refine below_set ?_ GE651.out) | exact HB.out)⟩
        · rw [if_neg c13] at H
          have c13b0 : (a0_0 == 4) = false := beq_eq_false_iff_ne.mpr c13
          have c13b1 : (a0_0 != 4) = true := bne_iff_ne.mpr c13
          by_cases c16 : a0_0 = 5
          · rw [if_pos c16] at H
            have c16b0 : (a0_0 == 5) = true := beq_iff_eq.mpr c16
            have c16b1 : (a0_0 != 5) = false := bne_eq_false_iff_eq.mpr c16
            clear c16
            obtain rfl := Option.some.inj H
            go_enter Try.func58, Try.ntmps58
            go_wp2_with (first | ((with_reducible refine gate_dst (N := 1) rfl ?_); refine box_event ?hg (N := 1) ?hd (cs := #[.int .i64 a0_0, .string a0_1, .int .i64 a0_2, .slice A0_3 l0_3.length c0_3]) (t := 29) ?hr ?_; (case hd => rfl); (case hg => rfl); (case hr => first | (go_simp; done) | (go_simp; rfl)); intro gb651 hg w17 hbox hb; have n0_ := Aside0.mk (below_step (by repeat (first | (with_reducible first | exact HB.out | apply below_alloc | apply pw_below_drewN | apply below_drew1) | exact HB.out)) hb); have n1_ := Aside0.mk (hbox); have n2_ := Aside0.mk ((by rw [hg]; exact (below_size (by repeat (first | (with_reducible first | exact HB.out | apply below_alloc | apply pw_below_drewN | apply below_drew1) | exact HB.out))) : w.heap.size ≤ gb651)); have n3_ := Aside0.mk ((by rw [hg]; exact (below_size (by repeat (first | (with_reducible first | exact HB.out | apply below_alloc | apply pw_below_drewN | apply below_drew1) | exact HB.out))) : w.heap.size ≤ gb651)); clear HB; have HB := n0_; have BK651 := n1_; have GW651 := n2_; have GE651 := n3_; clear n0_ n1_ n2_ n3_; clear hb hbox hg; have hcz18_0 : w17.cell? ⟨gb651, 0, none⟩ = some (.int .i64 a0_0) := (blk_cell BK651.out 0).trans rfl; have hcz18_1 : w17.cell? ⟨gb651, 1, none⟩ = some (.string a0_1) := (blk_cell BK651.out 1).trans rfl; have hcz18_2 : w17.cell? ⟨gb651, 2, none⟩ = some (.int .i64 a0_2) := (blk_cell BK651.out 2).trans rfl; have hcz18_3 : w17.cell? ⟨gb651, 3, none⟩ = some (.slice A0_3 l0_3.length c0_3) := (blk_cell BK651.out 3).trans rfl; have hfz18_0 := blk_frozen BK651.out 0; have hfz18_1 := blk_frozen BK651.out 1; have hfz18_2 := blk_frozen BK651.out 2; have hfz18_3 := blk_frozen BK651.out 3))
            go_ret
            exact ⟨by first | rfl | (simp [errW_none, errW_some] <;> rfl) | (simp [*, errW_none, errW_some] <;> rfl), by repeat (first | (with_reducible first | exact HB.out | apply below_alloc | apply pw_below_drewN | apply below_drew1 | refine below_set ?_ GE651.out) | exact HB.out)⟩
          · rw [if_neg c16] at H
            have c16b0 : (a0_0 == 5) = false := beq_eq_false_iff_ne.mpr c16
            have c16b1 : (a0_0 != 5) = true := bne_iff_ne.mpr c16
            by_cases c19 : a0_0 = 6
            · rw [if_pos c19] at H
              have c19b0 : (a0_0 == 6) = true := beq_iff_eq.mpr c19
              have c19b1 : (a0_0 != 6) = false := bne_eq_false_iff_eq.mpr c19
              clear c19
              replace H := Option.bind_eq_some_iff.mp H
              obtain ⟨t652, A200, H⟩ := H
              replace H : (if 3 + t652.size ≤ 9223372036854775807 then (some ((⟨#[97, 116, 32]⟩ : ByteArray) ++ t652)) else (none)) = some r := H
              have A20 := Aside0.mk A200
              clear A200
              by_cases c21 : 3 + t652.size ≤ 9223372036854775807
              · rw [if_pos c21] at H
                have c21b0 := eq_true c21
                have c21b1 : decide (3 + t652.size ≤ 9223372036854775807) = true := decide_eq_true c21
                try have c21b2 : (9223372036854775807 < 3 + t652.size) = False := eq_false (Nat.not_lt.2 c21)
                obtain rfl := Option.some.inj H
                go_enter Try.func58, Try.ntmps58
                go_wp2_with (first | ((with_reducible refine gate_dst (N := 1) rfl ?_); refine box_event ?hg (N := 1) ?hd (cs := #[.int .i64 a0_0, .string a0_1, .int .i64 a0_2, .slice A0_3 l0_3.length c0_3]) (t := 29) ?hr ?_; (case hd => rfl); (case hg => rfl); (case hr => first | (go_simp; done) | (go_simp; rfl)); intro gb651 hg w22 hbox hb; have n0_ := Aside0.mk (below_step (by repeat (first | (with_reducible first | exact HB.out | apply below_alloc | apply pw_below_drewN | apply below_drew1) | exact HB.out)) hb); have n1_ := Aside0.mk (hbox); have n2_ := Aside0.mk ((by rw [hg]; exact (below_size (by repeat (first | (with_reducible first | exact HB.out | apply below_alloc | apply pw_below_drewN | apply below_drew1) | exact HB.out))) : w.heap.size ≤ gb651)); have n3_ := Aside0.mk ((by rw [hg]; exact (below_size (by repeat (first | (with_reducible first | exact HB.out | apply below_alloc | apply pw_below_drewN | apply below_drew1) | exact HB.out))) : w.heap.size ≤ gb651)); clear HB; have HB := n0_; have BK651 := n1_; have GW651 := n2_; have GE651 := n3_; clear n0_ n1_ n2_ n3_; clear hb hbox hg; have hcz23_0 : w22.cell? ⟨gb651, 0, none⟩ = some (.int .i64 a0_0) := (blk_cell BK651.out 0).trans rfl; have hcz23_1 : w22.cell? ⟨gb651, 1, none⟩ = some (.string a0_1) := (blk_cell BK651.out 1).trans rfl; have hcz23_2 : w22.cell? ⟨gb651, 2, none⟩ = some (.int .i64 a0_2) := (blk_cell BK651.out 2).trans rfl; have hcz23_3 : w22.cell? ⟨gb651, 3, none⟩ = some (.slice A0_3 l0_3.length c0_3) := (blk_cell BK651.out 3).trans rfl; have hfz23_0 := blk_frozen BK651.out 0; have hfz23_1 := blk_frozen BK651.out 1; have hfz23_2 := blk_frozen BK651.out 2; have hfz23_3 := blk_frozen BK651.out 3) | ((with_reducible refine gate_callee (f := 73) rfl ?_); refine goesL_ (some 25) rfl rfl Try.func73 (by kernel_rfl) rfl #[.int .i64 a0_2] rfl (by (try simp only [List.map_toArray, List.map_cons, List.map_nil]); first | done | rfl | (simp only [List.length_drop, List.length_take]; rfl)) ?_; (with_reducible refine (impl_FormatInt.calls k a0_2 t652 _ A20.out).mono ?_); rintro e w24 ⟨rfl, hb⟩; refine ⟨_, rfl, ?_⟩; have n0_ := Aside0.mk (blk_below (g := gb651) (o := .cells #[.int .i64 a0_0, .string a0_1, .int .i64 a0_2, .slice A0_3 l0_3.length c0_3] 29 (0, 0)) (by (with_reducible repeat (first | refine blk_drewN ?_ _ | refine blk_drew ?_ | refine blk_alloc ?_ _)); exact BK651.out) hb); have n1_ := Aside0.mk (below_step (by repeat (first | (with_reducible first | exact HB.out | apply below_alloc | apply pw_below_drewN | apply below_drew1 | refine below_set ?_ GE651.out) | exact HB.out)) hb); clear BK651; clear HB; have BK651 := n0_; have HB := n1_; clear n0_ n1_; (try clear hb); (try clear hb2); (try clear hk); (try clear hi)))
                go_ret
                exact ⟨by first | rfl | (simp [errW_none, errW_some] <;> rfl) | (simp [*, errW_none, errW_some] <;> rfl), by repeat (first | (with_reducible first | exact HB.out | apply below_alloc | apply pw_below_drewN | apply below_drew1 | refine below_set ?_ GE651.out) | exact HB.out)⟩
              · rw [if_neg c21] at H
                exact absurd H (by simp)
            · rw [if_neg c19] at H
              have c19b0 : (a0_0 == 6) = false := beq_eq_false_iff_ne.mpr c19
              have c19b1 : (a0_0 != 6) = true := bne_iff_ne.mpr c19
              by_cases c25 : a0_0 = 7
              · rw [if_pos c25] at H
                have c25b0 : (a0_0 == 7) = true := beq_iff_eq.mpr c25
                have c25b1 : (a0_0 != 7) = false := bne_eq_false_iff_eq.mpr c25
                clear c25
                replace H := Option.bind_eq_some_iff.mp H
                obtain ⟨t653, A260, H⟩ := H
                replace H : (if 4 + t653.size ≤ 9223372036854775807 then (some ((⟨#[97, 100, 100, 32]⟩ : ByteArray) ++ t653)) else (none)) = some r := H
                have A26 := Aside0.mk A260
                clear A260
                by_cases c27 : 4 + t653.size ≤ 9223372036854775807
                · rw [if_pos c27] at H
                  have c27b0 := eq_true c27
                  have c27b1 : decide (4 + t653.size ≤ 9223372036854775807) = true := decide_eq_true c27
                  try have c27b2 : (9223372036854775807 < 4 + t653.size) = False := eq_false (Nat.not_lt.2 c27)
                  obtain rfl := Option.some.inj H
                  go_enter Try.func58, Try.ntmps58
                  go_wp2_with (first | ((with_reducible refine gate_dst (N := 1) rfl ?_); refine box_event ?hg (N := 1) ?hd (cs := #[.int .i64 a0_0, .string a0_1, .int .i64 a0_2, .slice A0_3 l0_3.length c0_3]) (t := 29) ?hr ?_; (case hd => rfl); (case hg => rfl); (case hr => first | (go_simp; done) | (go_simp; rfl)); intro gb651 hg w28 hbox hb; have n0_ := Aside0.mk (below_step (by repeat (first | (with_reducible first | exact HB.out | apply below_alloc | apply pw_below_drewN | apply below_drew1) | exact HB.out)) hb); have n1_ := Aside0.mk (hbox); have n2_ := Aside0.mk ((by rw [hg]; exact (below_size (by repeat (first | (with_reducible first | exact HB.out | apply below_alloc | apply pw_below_drewN | apply below_drew1) | exact HB.out))) : w.heap.size ≤ gb651)); have n3_ := Aside0.mk ((by rw [hg]; exact (below_size (by repeat (first | (with_reducible first | exact HB.out | apply below_alloc | apply pw_below_drewN | apply below_drew1) | exact HB.out))) : w.heap.size ≤ gb651)); clear HB; have HB := n0_; have BK651 := n1_; have GW651 := n2_; have GE651 := n3_; clear n0_ n1_ n2_ n3_; clear hb hbox hg; have hcz29_0 : w28.cell? ⟨gb651, 0, none⟩ = some (.int .i64 a0_0) := (blk_cell BK651.out 0).trans rfl; have hcz29_1 : w28.cell? ⟨gb651, 1, none⟩ = some (.string a0_1) := (blk_cell BK651.out 1).trans rfl; have hcz29_2 : w28.cell? ⟨gb651, 2, none⟩ = some (.int .i64 a0_2) := (blk_cell BK651.out 2).trans rfl; have hcz29_3 : w28.cell? ⟨gb651, 3, none⟩ = some (.slice A0_3 l0_3.length c0_3) := (blk_cell BK651.out 3).trans rfl; have hfz29_0 := blk_frozen BK651.out 0; have hfz29_1 := blk_frozen BK651.out 1; have hfz29_2 := blk_frozen BK651.out 2; have hfz29_3 := blk_frozen BK651.out 3) | ((with_reducible refine gate_callee (f := 73) rfl ?_); refine goesL_ (some 31) rfl rfl Try.func73 (by kernel_rfl) rfl #[.int .i64 a0_2] rfl (by (try simp only [List.map_toArray, List.map_cons, List.map_nil]); first | done | rfl | (simp only [List.length_drop, List.length_take]; rfl)) ?_; (with_reducible refine (impl_FormatInt.calls k a0_2 t653 _ A26.out).mono ?_); rintro e w30 ⟨rfl, hb⟩; refine ⟨_, rfl, ?_⟩; have n0_ := Aside0.mk (blk_below (g := gb651) (o := .cells #[.int .i64 a0_0, .string a0_1, .int .i64 a0_2, .slice A0_3 l0_3.length c0_3] 29 (0, 0)) (by (with_reducible repeat (first | refine blk_drewN ?_ _ | refine blk_drew ?_ | refine blk_alloc ?_ _)); exact BK651.out) hb); have n1_ := Aside0.mk (below_step (by repeat (first | (with_reducible first | exact HB.out | apply below_alloc | apply pw_below_drewN | apply below_drew1 | refine below_set ?_ GE651.out) | exact HB.out)) hb); clear BK651; clear HB; have BK651 := n0_; have HB := n1_; clear n0_ n1_; (try clear hb); (try clear hb2); (try clear hk); (try clear hi)))
                  go_ret
                  exact ⟨by first | rfl | (simp [errW_none, errW_some] <;> rfl) | (simp [*, errW_none, errW_some] <;> rfl), by repeat (first | (with_reducible first | exact HB.out | apply below_alloc | apply pw_below_drewN | apply below_drew1 | refine below_set ?_ GE651.out) | exact HB.out)⟩
                · rw [if_neg c27] at H
                  exact absurd H (by simp)
              · rw [if_neg c25] at H
                have c25b0 : (a0_0 == 7) = false := beq_eq_false_iff_ne.mpr c25
                have c25b1 : (a0_0 != 7) = true := bne_iff_ne.mpr c25
                by_cases c31 : a0_0 = 8
                · rw [if_pos c31] at H
                  have c31b0 : (a0_0 == 8) = true := beq_iff_eq.mpr c31
                  have c31b1 : (a0_0 != 8) = false := bne_eq_false_iff_eq.mpr c31
                  clear c31
                  obtain rfl := Option.some.inj H
                  go_enter Try.func58, Try.ntmps58
                  go_wp2_with (first | ((with_reducible refine gate_dst (N := 1) rfl ?_); refine box_event ?hg (N := 1) ?hd (cs := #[.int .i64 a0_0, .string a0_1, .int .i64 a0_2, .slice A0_3 l0_3.length c0_3]) (t := 29) ?hr ?_; (case hd => rfl); (case hg => rfl); (case hr => first | (go_simp; done) | (go_simp; rfl)); intro gb651 hg w32 hbox hb; have n0_ := Aside0.mk (below_step (by repeat (first | (with_reducible first | exact HB.out | apply below_alloc | apply pw_below_drewN | apply below_drew1) | exact HB.out)) hb); have n1_ := Aside0.mk (hbox); have n2_ := Aside0.mk ((by rw [hg]; exact (below_size (by repeat (first | (with_reducible first | exact HB.out | apply below_alloc | apply pw_below_drewN | apply below_drew1) | exact HB.out))) : w.heap.size ≤ gb651)); have n3_ := Aside0.mk ((by rw [hg]; exact (below_size (by repeat (first | (with_reducible first | exact HB.out | apply below_alloc | apply pw_below_drewN | apply below_drew1) | exact HB.out))) : w.heap.size ≤ gb651)); clear HB; have HB := n0_; have BK651 := n1_; have GW651 := n2_; have GE651 := n3_; clear n0_ n1_ n2_ n3_; clear hb hbox hg; have hcz33_0 : w32.cell? ⟨gb651, 0, none⟩ = some (.int .i64 a0_0) := (blk_cell BK651.out 0).trans rfl; have hcz33_1 : w32.cell? ⟨gb651, 1, none⟩ = some (.string a0_1) := (blk_cell BK651.out 1).trans rfl; have hcz33_2 : w32.cell? ⟨gb651, 2, none⟩ = some (.int .i64 a0_2) := (blk_cell BK651.out 2).trans rfl; have hcz33_3 : w32.cell? ⟨gb651, 3, none⟩ = some (.slice A0_3 l0_3.length c0_3) := (blk_cell BK651.out 3).trans rfl; have hfz33_0 := blk_frozen BK651.out 0; have hfz33_1 := blk_frozen BK651.out 1; have hfz33_2 := blk_frozen BK651.out 2; have hfz33_3 := blk_frozen BK651.out 3))
                  go_ret
                  exact ⟨by first | rfl | (simp [errW_none, errW_some] <;> rfl) | (simp [*, errW_none, errW_some] <;> rfl), by repeat (first | (with_reducible first | exact HB.out | apply below_alloc | apply pw_below_drewN | apply below_drew1 | refine below_set ?_ GE651.out) | exact HB.out)⟩
                · rw [if_neg c31] at H
                  have c31b0 : (a0_0 == 8) = false := beq_eq_false_iff_ne.mpr c31
                  have c31b1 : (a0_0 != 8) = true := bne_iff_ne.mpr c31
                  by_cases c34 : a0_0 = 9
                  · rw [if_pos c34] at H
                    have c34b0 : (a0_0 == 9) = true := beq_iff_eq.mpr c34
                    have c34b1 : (a0_0 != 9) = false := bne_eq_false_iff_eq.mpr c34
                    clear c34
                    obtain rfl := Option.some.inj H
                    go_enter Try.func58, Try.ntmps58
                    go_wp2_with (first | ((with_reducible refine gate_dst (N := 1) rfl ?_); refine box_event ?hg (N := 1) ?hd (cs := #[.int .i64 a0_0, .string a0_1, .int .i64 a0_2, .slice A0_3 l0_3.length c0_3]) (t := 29) ?hr ?_; (case hd => rfl); (case hg => rfl); (case hr => first | (go_simp; done) | (go_simp; rfl)); intro gb651 hg w35 hbox hb; have n0_ := Aside0.mk (below_step (by repeat (first | (with_reducible first | exact HB.out | apply below_alloc | apply pw_below_drewN | apply below_drew1) | exact HB.out)) hb); have n1_ := Aside0.mk (hbox); have n2_ := Aside0.mk ((by rw [hg]; exact (below_size (by repeat (first | (with_reducible first | exact HB.out | apply below_alloc | apply pw_below_drewN | apply below_drew1) | exact HB.out))) : w.heap.size ≤ gb651)); have n3_ := Aside0.mk ((by rw [hg]; exact (below_size (by repeat (first | (with_reducible first | exact HB.out | apply below_alloc | apply pw_below_drewN | apply below_drew1) | exact HB.out))) : w.heap.size ≤ gb651)); clear HB; have HB := n0_; have BK651 := n1_; have GW651 := n2_; have GE651 := n3_; clear n0_ n1_ n2_ n3_; clear hb hbox hg; have hcz36_0 : w35.cell? ⟨gb651, 0, none⟩ = some (.int .i64 a0_0) := (blk_cell BK651.out 0).trans rfl; have hcz36_1 : w35.cell? ⟨gb651, 1, none⟩ = some (.string a0_1) := (blk_cell BK651.out 1).trans rfl; have hcz36_2 : w35.cell? ⟨gb651, 2, none⟩ = some (.int .i64 a0_2) := (blk_cell BK651.out 2).trans rfl; have hcz36_3 : w35.cell? ⟨gb651, 3, none⟩ = some (.slice A0_3 l0_3.length c0_3) := (blk_cell BK651.out 3).trans rfl; have hfz36_0 := blk_frozen BK651.out 0; have hfz36_1 := blk_frozen BK651.out 1; have hfz36_2 := blk_frozen BK651.out 2; have hfz36_3 := blk_frozen BK651.out 3))
                    go_ret
                    exact ⟨by first | rfl | (simp [errW_none, errW_some] <;> rfl) | (simp [*, errW_none, errW_some] <;> rfl), by repeat (first | (with_reducible first | exact HB.out | apply below_alloc | apply pw_below_drewN | apply below_drew1 | refine below_set ?_ GE651.out) | exact HB.out)⟩
                  · rw [if_neg c34] at H
                    have c34b0 : (a0_0 == 9) = false := beq_eq_false_iff_ne.mpr c34
                    have c34b1 : (a0_0 != 9) = true := bne_iff_ne.mpr c34
                    by_cases c37 : a0_0 = 10
                    · rw [if_pos c37] at H
                      have c37b0 : (a0_0 == 10) = true := beq_iff_eq.mpr c37
                      have c37b1 : (a0_0 != 10) = false := bne_eq_false_iff_eq.mpr c37
                      clear c37
                      by_cases c38 : 5 + a0_1.size ≤ 9223372036854775807
                      · rw [if_pos c38] at H
                        have c38b0 := eq_true c38
                        have c38b1 : decide (5 + a0_1.size ≤ 9223372036854775807) = true := decide_eq_true c38
                        try have c38b2 : (9223372036854775807 < 5 + a0_1.size) = False := eq_false (Nat.not_lt.2 c38)
                        obtain rfl := Option.some.inj H
                        go_enter Try.func58, Try.ntmps58
                        go_wp2_with (first | ((with_reducible refine gate_dst (N := 1) rfl ?_); refine box_event ?hg (N := 1) ?hd (cs := #[.int .i64 a0_0, .string a0_1, .int .i64 a0_2, .slice A0_3 l0_3.length c0_3]) (t := 29) ?hr ?_; (case hd => rfl); (case hg => rfl); (case hr => first | (go_simp; done) | (go_simp; rfl)); intro gb651 hg w39 hbox hb; have n0_ := Aside0.mk (below_step (by repeat (first | (with_reducible first | exact HB.out | apply below_alloc | apply pw_below_drewN | apply below_drew1) | exact HB.out)) hb); have n1_ := Aside0.mk (hbox); have n2_ := Aside0.mk ((by rw [hg]; exact (below_size (by repeat (first | (with_reducible first | exact HB.out | apply below_alloc | apply pw_below_drewN | apply below_drew1) | exact HB.out))) : w.heap.size ≤ gb651)); have n3_ := Aside0.mk ((by rw [hg]; exact (below_size (by repeat (first | (with_reducible first | exact HB.out | apply below_alloc | apply pw_below_drewN | apply below_drew1) | exact HB.out))) : w.heap.size ≤ gb651)); clear HB; have HB := n0_; have BK651 := n1_; have GW651 := n2_; have GE651 := n3_; clear n0_ n1_ n2_ n3_; clear hb hbox hg; have hcz40_0 : w39.cell? ⟨gb651, 0, none⟩ = some (.int .i64 a0_0) := (blk_cell BK651.out 0).trans rfl; have hcz40_1 : w39.cell? ⟨gb651, 1, none⟩ = some (.string a0_1) := (blk_cell BK651.out 1).trans rfl; have hcz40_2 : w39.cell? ⟨gb651, 2, none⟩ = some (.int .i64 a0_2) := (blk_cell BK651.out 2).trans rfl; have hcz40_3 : w39.cell? ⟨gb651, 3, none⟩ = some (.slice A0_3 l0_3.length c0_3) := (blk_cell BK651.out 3).trans rfl; have hfz40_0 := blk_frozen BK651.out 0; have hfz40_1 := blk_frozen BK651.out 1; have hfz40_2 := blk_frozen BK651.out 2; have hfz40_3 := blk_frozen BK651.out 3))
                        go_ret
                        exact ⟨by first | rfl | (simp [errW_none, errW_some] <;> rfl) | (simp [*, errW_none, errW_some] <;> rfl), by repeat (first | (with_reducible first | exact HB.out | apply below_alloc | apply pw_below_drewN | apply below_drew1 | refine below_set ?_ GE651.out) | exact HB.out)⟩
                      · rw [if_neg c38] at H
                        exact absurd H (by simp)
                    · rw [if_neg c37] at H
                      have c37b0 : (a0_0 == 10) = false := beq_eq_false_iff_ne.mpr c37
                      have c37b1 : (a0_0 != 10) = true := bne_iff_ne.mpr c37
                      by_cases c41 : a0_0 = 11
                      · rw [if_pos c41] at H
                        have c41b0 : (a0_0 == 11) = true := beq_iff_eq.mpr c41
                        have c41b1 : (a0_0 != 11) = false := bne_eq_false_iff_eq.mpr c41
                        clear c41
                        by_cases c42 : 0 < (l0_3.length : Int)
                        · rw [if_pos c42] at H
                          have c42b0 : decide (0 < (l0_3.length : Int)) = true := decide_eq_true c42
                          have c42b1 : decide (0 < l0_3.length) = true := decide_eq_true (by omega)
                          clear c42
                          replace H := Option.bind_eq_some_iff.mp H
                          obtain ⟨t655, A430, H⟩ := H
                          replace H : (if 4 + t655.size ≤ 9223372036854775807 then (some ((⟨#[109, 97, 112, 32]⟩ : ByteArray) ++ t655)) else (none)) = some r := H
                          have A43 := Aside0.mk A430
                          clear A430
                          by_cases c44 : 4 + t655.size ≤ 9223372036854775807
                          · rw [if_pos c44] at H
                            have c44b0 := eq_true c44
                            have c44b1 : decide (4 + t655.size ≤ 9223372036854775807) = true := decide_eq_true c44
                            try have c44b2 : (9223372036854775807 < 4 + t655.size) = False := eq_false (Nat.not_lt.2 c44)
                            obtain rfl := Option.some.inj H
                            go_enter Try.func58, Try.ntmps58
                            go_wp2_with (first | ((with_reducible refine gate_dst (N := 1) rfl ?_); refine box_event ?hg (N := 1) ?hd (cs := #[.int .i64 a0_0, .string a0_1, .int .i64 a0_2, .slice A0_3 l0_3.length c0_3]) (t := 29) ?hr ?_; (case hd => rfl); (case hg => rfl); (case hr => first | (go_simp; done) | (go_simp; rfl)); intro gb651 hg w45 hbox hb; have n0_ := Aside0.mk (below_step (by repeat (first | (with_reducible first | exact HB.out | apply below_alloc | apply pw_below_drewN | apply below_drew1) | exact HB.out)) hb); have n1_ := Aside0.mk (hbox); have n2_ := Aside0.mk ((by rw [hg]; exact (below_size (by repeat (first | (with_reducible first | exact HB.out | apply below_alloc | apply pw_below_drewN | apply below_drew1) | exact HB.out))) : w.heap.size ≤ gb651)); have n3_ := Aside0.mk ((by rw [hg]; exact (below_size (by repeat (first | (with_reducible first | exact HB.out | apply below_alloc | apply pw_below_drewN | apply below_drew1) | exact HB.out))) : w.heap.size ≤ gb651)); clear HB; have HB := n0_; have BK651 := n1_; have GW651 := n2_; have GE651 := n3_; clear n0_ n1_ n2_ n3_; clear hb hbox hg; have hcz46_0 : w45.cell? ⟨gb651, 0, none⟩ = some (.int .i64 a0_0) := (blk_cell BK651.out 0).trans rfl; have hcz46_1 : w45.cell? ⟨gb651, 1, none⟩ = some (.string a0_1) := (blk_cell BK651.out 1).trans rfl; have hcz46_2 : w45.cell? ⟨gb651, 2, none⟩ = some (.int .i64 a0_2) := (blk_cell BK651.out 2).trans rfl; have hcz46_3 : w45.cell? ⟨gb651, 3, none⟩ = some (.slice A0_3 l0_3.length c0_3) := (blk_cell BK651.out 3).trans rfl; have hfz46_0 := blk_frozen BK651.out 0; have hfz46_1 := blk_frozen BK651.out 1; have hfz46_2 := blk_frozen BK651.out 2; have hfz46_3 := blk_frozen BK651.out 3; have p654 : 0 ≤ (0 : Int) := (by omega); have q654 : 0 < (l0_3.length : Int) := of_decide_eq_true (by first | (with_reducible assumption) | assumption); obtain ⟨ad654, A654_3, c654_3, e654, hx654_0, hx654_1, hx654_2, hx654_3, hl654_3, hi654_3⟩ := at_T29 HR0_3.out 0 p654 q654; cases e654; have qi654 : (0 < l0_3.length) = True := eq_true (by omega); (try rw [show ((0 : Int)).toNat = 0 from rfl] at hx654_0); (try rw [show 0 * 4 = 0 from rfl] at hx654_0); (try rw [Addr.add_zero'] at hx654_0); (try rw [show ((0 : Int)).toNat = 0 from rfl] at hx654_1); (try rw [show 0 * 4 = 0 from rfl] at hx654_1); (try rw [Addr.add_zero'] at hx654_1); (try rw [show ((0 : Int)).toNat = 0 from rfl] at hx654_2); (try rw [show 0 * 4 = 0 from rfl] at hx654_2); (try rw [Addr.add_zero'] at hx654_2); (try rw [show ((0 : Int)).toNat = 0 from rfl] at hx654_3); (try rw [show 0 * 4 = 0 from rfl] at hx654_3); (try rw [Addr.add_zero'] at hx654_3); replace hx654_0 := (HB.out.cell (World.block_lt_of_cell? w _ hx654_0)).trans hx654_0; replace hx654_1 := (HB.out.cell (World.block_lt_of_cell? w _ hx654_1)).trans hx654_1; replace hx654_2 := (HB.out.cell (World.block_lt_of_cell? w _ hx654_2)).trans hx654_2; replace hx654_3 := (HB.out.cell (World.block_lt_of_cell? w _ hx654_3)).trans hx654_3; have HR654_3 := Aside0.mk hi654_3; have HC654_3 := Aside0.mk hl654_3; clear hi654_3 hl654_3; replace p654 := eq_true p654; replace q654 := eq_true q654) | ((with_reducible refine gate_callee (f := 58) rfl ?_); refine goesL_ (some 48) rfl rfl Try.func58 (by kernel_rfl) rfl #[.agg #[.int .i64 ((rd_T29 l0_3 0).f0), .string ((rd_T29 l0_3 0).f1), .int .i64 ((rd_T29 l0_3 0).f2), .slice A654_3 ((rd_T29 l0_3 0).f3).length c654_3]] rfl (by (try simp only [List.map_toArray, List.map_cons, List.map_nil]); first | done | rfl | (simp only [List.length_drop, List.length_take]; rfl)) ?_; (with_reducible refine (ih k (by omega) ((rd_T29 l0_3 0).f0) ((rd_T29 l0_3 0).f1) ((rd_T29 l0_3 0).f2) _ _ ((rd_T29 l0_3 0).f3) t655 _ ?side1 ?side2 A43.out).mono ?_); (case side1 => repeat (first | exact (Kd.C_below HR654_3.out HB.out) | (with_reducible refine Kd.C_alloc ?_ _) | (with_reducible refine Kd.C_drewN ?_ _) | (with_reducible refine Kd.C_drew ?_))); (case side2 => exact HC654_3.out); rintro e w47 ⟨rfl, hb⟩; refine ⟨_, rfl, ?_⟩; have n0_ := Aside0.mk (blk_below (g := gb651) (o := .cells #[.int .i64 a0_0, .string a0_1, .int .i64 a0_2, .slice (some ad654) l0_3.length c0_3] 29 (0, 0)) (by (with_reducible repeat (first | refine blk_drewN ?_ _ | refine blk_drew ?_ | refine blk_alloc ?_ _)); exact BK651.out) hb); have n1_ := Aside0.mk (below_step (by repeat (first | (with_reducible first | exact HB.out | apply below_alloc | apply pw_below_drewN | apply below_drew1 | refine below_set ?_ GE651.out) | exact HB.out)) hb); clear BK651; clear HB; have BK651 := n0_; have HB := n1_; clear n0_ n1_; (try clear hb); (try clear hb2); (try clear hk); (try clear hi)))
                            go_ret
                            exact ⟨by first | rfl | (simp [errW_none, errW_some] <;> rfl) | (simp [*, errW_none, errW_some] <;> rfl), by repeat (first | (with_reducible first | exact HB.out | apply below_alloc | apply pw_below_drewN | apply below_drew1 | refine below_set ?_ GE651.out) | exact HB.out)⟩
                          · rw [if_neg c44] at H
                            exact absurd H (by simp)
                        · rw [if_neg c42] at H
                          exact absurd H (by simp)
                      · rw [if_neg c41] at H
                        have c41b0 : (a0_0 == 11) = false := beq_eq_false_iff_ne.mpr c41
                        have c41b1 : (a0_0 != 11) = true := bne_iff_ne.mpr c41
                        by_cases c48 : a0_0 = 12
                        · rw [if_pos c48] at H
                          have c48b0 : (a0_0 == 12) = true := beq_iff_eq.mpr c48
                          have c48b1 : (a0_0 != 12) = false := bne_eq_false_iff_eq.mpr c48
                          clear c48
                          by_cases c49 : 0 < (l0_3.length : Int)
                          · rw [if_pos c49] at H
                            have c49b0 : decide (0 < (l0_3.length : Int)) = true := decide_eq_true c49
                            have c49b1 : decide (0 < l0_3.length) = true := decide_eq_true (by omega)
                            clear c49
                            replace H := Option.bind_eq_some_iff.mp H
                            obtain ⟨t657, A500, H⟩ := H
                            replace H : (if 1 + t657.size ≤ 9223372036854775807 then (if ((⟨#[40]⟩ : ByteArray) ++ t657).size + 1 ≤ 9223372036854775807 then (if 1 < (l0_3.length : Int) then ((impl_opticText.f k ((rd_T29 l0_3 1).f0) ((rd_T29 l0_3 1).f1) ((rd_T29 l0_3 1).f2) ((rd_T29 l0_3 1).f3)).bind fun t659 => (if (((⟨#[40]⟩ : ByteArray) ++ t657) ++ (⟨#[59]⟩ : ByteArray)).size + t659.size ≤ 9223372036854775807 then (if ((((⟨#[40]⟩ : ByteArray) ++ t657) ++ (⟨#[59]⟩ : ByteArray)) ++ t659).size + 1 ≤ 9223372036854775807 then (some (((((⟨#[40]⟩ : ByteArray) ++ t657) ++ (⟨#[59]⟩ : ByteArray)) ++ t659) ++ (⟨#[41]⟩ : ByteArray))) else (none)) else (none))) else (none)) else (none)) else (none)) = some r := H
                            have A50 := Aside0.mk A500
                            clear A500
                            by_cases c51 : 1 + t657.size ≤ 9223372036854775807
                            · rw [if_pos c51] at H
                              have c51b0 := eq_true c51
                              have c51b1 : decide (1 + t657.size ≤ 9223372036854775807) = true := decide_eq_true c51
                              try have c51b2 : (9223372036854775807 < 1 + t657.size) = False := eq_false (Nat.not_lt.2 c51)
                              by_cases c52 : ((⟨#[40]⟩ : ByteArray) ++ t657).size + 1 ≤ 9223372036854775807
                              · rw [if_pos c52] at H
                                have c52b0 := eq_true c52
                                have c52b1 : decide (((⟨#[40]⟩ : ByteArray) ++ t657).size + 1 ≤ 9223372036854775807) = true := decide_eq_true c52
                                try have c52b2 : (9223372036854775807 < ((⟨#[40]⟩ : ByteArray) ++ t657).size + 1) = False := eq_false (Nat.not_lt.2 c52)
                                try have c52b3 : ((1 + t657.size) + 1 ≤ 9223372036854775807) = True := eq_true (by have h_ := c52; simp only [ByteArray.size_append] at h_; exact h_)
                                try have c52b4 : (9223372036854775807 < (1 + t657.size) + 1) = False := eq_false (by have h_ := c52; simp only [ByteArray.size_append] at h_; exact Nat.not_lt.2 h_)
                                by_cases c53 : 1 < (l0_3.length : Int)
                                · rw [if_pos c53] at H
                                  have c53b0 : decide (1 < (l0_3.length : Int)) = true := decide_eq_true c53
                                  have c53b1 : decide (1 < l0_3.length) = true := decide_eq_true (by omega)
                                  clear c53
                                  replace H := Option.bind_eq_some_iff.mp H
                                  obtain ⟨t659, A540, H⟩ := H
                                  replace H : (if (((⟨#[40]⟩ : ByteArray) ++ t657) ++ (⟨#[59]⟩ : ByteArray)).size + t659.size ≤ 9223372036854775807 then (if ((((⟨#[40]⟩ : ByteArray) ++ t657) ++ (⟨#[59]⟩ : ByteArray)) ++ t659).size + 1 ≤ 9223372036854775807 then (some (((((⟨#[40]⟩ : ByteArray) ++ t657) ++ (⟨#[59]⟩ : ByteArray)) ++ t659) ++ (⟨#[41]⟩ : ByteArray))) else (none)) else (none)) = some r := H
                                  have A54 := Aside0.mk A540
                                  clear A540
                                  by_cases c55 : (((⟨#[40]⟩ : ByteArray) ++ t657) ++ (⟨#[59]⟩ : ByteArray)).size + t659.size ≤ 9223372036854775807
                                  · rw [if_pos c55] at H
                                    have c55b0 := eq_true c55
                                    have c55b1 : decide ((((⟨#[40]⟩ : ByteArray) ++ t657) ++ (⟨#[59]⟩ : ByteArray)).size + t659.size ≤ 9223372036854775807) = true := decide_eq_true c55
                                    try have c55b2 : (9223372036854775807 < (((⟨#[40]⟩ : ByteArray) ++ t657) ++ (⟨#[59]⟩ : ByteArray)).size + t659.size) = False := eq_false (Nat.not_lt.2 c55)
                                    try have c55b3 : (((1 + t657.size) + 1) + t659.size ≤ 9223372036854775807) = True := eq_true (by have h_ := c55; simp only [ByteArray.size_append] at h_; exact h_)
                                    try have c55b4 : (9223372036854775807 < ((1 + t657.size) + 1) + t659.size) = False := eq_false (by have h_ := c55; simp only [ByteArray.size_append] at h_; exact Nat.not_lt.2 h_)
                                    by_cases c56 : ((((⟨#[40]⟩ : ByteArray) ++ t657) ++ (⟨#[59]⟩ : ByteArray)) ++ t659).size + 1 ≤ 9223372036854775807
                                    · rw [if_pos c56] at H
                                      have c56b0 := eq_true c56
                                      have c56b1 : decide (((((⟨#[40]⟩ : ByteArray) ++ t657) ++ (⟨#[59]⟩ : ByteArray)) ++ t659).size + 1 ≤ 9223372036854775807) = true := decide_eq_true c56
                                      try have c56b2 : (9223372036854775807 < ((((⟨#[40]⟩ : ByteArray) ++ t657) ++ (⟨#[59]⟩ : ByteArray)) ++ t659).size + 1) = False := eq_false (Nat.not_lt.2 c56)
                                      try have c56b3 : ((((1 + t657.size) + 1) + t659.size) + 1 ≤ 9223372036854775807) = True := eq_true (by have h_ := c56; simp only [ByteArray.size_append] at h_; exact h_)
                                      try have c56b4 : (9223372036854775807 < (((1 + t657.size) + 1) + t659.size) + 1) = False := eq_false (by have h_ := c56; simp only [ByteArray.size_append] at h_; exact Nat.not_lt.2 h_)
                                      obtain rfl := Option.some.inj H
                                      go_enter Try.func58, Try.ntmps58
                                      try go_wp2_with (first | ((with_reducible refine gate_dst (N := 1) rfl ?_); refine box_event ?hg (N := 1) ?hd (cs := #[.int .i64 a0_0, .string a0_1, .int .i64 a0_2, .slice A0_3 l0_3.length c0_3]) (t := 29) ?hr ?_; (case hd => rfl); (case hg => rfl); (case hr => first | (go_simp; done) | (go_simp; rfl)); intro gb651 hg w57 hbox hb; have n0_ := Aside0.mk (below_step (by repeat (first | (with_reducible first | exact HB.out | apply below_alloc | apply pw_below_drewN | apply below_drew1) | exact HB.out)) hb); have n1_ := Aside0.mk (hbox); have n2_ := Aside0.mk ((by rw [hg]; exact (below_size (by repeat (first | (with_reducible first | exact HB.out | apply below_alloc | apply pw_below_drewN | apply below_drew1) | exact HB.out))) : w.heap.size ≤ gb651)); have n3_ := Aside0.mk ((by rw [hg]; exact (below_size (by repeat (first | (with_reducible first | exact HB.out | apply below_alloc | apply pw_below_drewN | apply below_drew1) | exact HB.out))) : w.heap.size ≤ gb651)); clear HB; have HB := n0_; have BK651 := n1_; have GW651 := n2_; have GE651 := n3_; clear n0_ n1_ n2_ n3_; clear hb hbox hg; have hcz58_0 : w57.cell? ⟨gb651, 0, none⟩ = some (.int .i64 a0_0) := (blk_cell BK651.out 0).trans rfl; have hcz58_1 : w57.cell? ⟨gb651, 1, none⟩ = some (.string a0_1) := (blk_cell BK651.out 1).trans rfl; have hcz58_2 : w57.cell? ⟨gb651, 2, none⟩ = some (.int .i64 a0_2) := (blk_cell BK651.out 2).trans rfl; have hcz58_3 : w57.cell? ⟨gb651, 3, none⟩ = some (.slice A0_3 l0_3.length c0_3) := (blk_cell BK651.out 3).trans rfl; have hfz58_0 := blk_frozen BK651.out 0; have hfz58_1 := blk_frozen BK651.out 1; have hfz58_2 := blk_frozen BK651.out 2; have hfz58_3 := blk_frozen BK651.out 3))
                                      have n0_ := Aside0.mk (blk_drew BK651.out)
                                      have n1_ := Aside0.mk (below_drew1 HB.out)
                                      clear BK651
                                      clear HB
                                      have BK651 := n0_
                                      have HB := n1_
                                      clear n0_ n1_
                                      have p656 : 0 ≤ (0 : Int) := (by omega)
                                      have q656 : 0 < (l0_3.length : Int) := of_decide_eq_true (by first | (with_reducible assumption) | assumption)
                                      obtain ⟨ad656, A656_3, c656_3, e656, hx656_0, hx656_1, hx656_2, hx656_3, hl656_3, hi656_3⟩ := at_T29 HR0_3.out 0 p656 q656
                                      have hw656_3 := hx656_3
                                      (try rw [show ((0 : Int)).toNat = 0 from rfl] at hw656_3)
                                      (try rw [show 0 * 4 = 0 from rfl] at hw656_3)
                                      (try rw [Addr.add_zero'] at hw656_3)
                                      have hw656_2 := hx656_2
                                      (try rw [show ((0 : Int)).toNat = 0 from rfl] at hw656_2)
                                      (try rw [show 0 * 4 = 0 from rfl] at hw656_2)
                                      (try rw [Addr.add_zero'] at hw656_2)
                                      have hw656_1 := hx656_1
                                      (try rw [show ((0 : Int)).toNat = 0 from rfl] at hw656_1)
                                      (try rw [show 0 * 4 = 0 from rfl] at hw656_1)
                                      (try rw [Addr.add_zero'] at hw656_1)
                                      have hw656_0 := hx656_0
                                      (try rw [show ((0 : Int)).toNat = 0 from rfl] at hw656_0)
                                      (try rw [show 0 * 4 = 0 from rfl] at hw656_0)
                                      (try rw [Addr.add_zero'] at hw656_0)
                                      cases e656
                                      have qi656 : (0 < l0_3.length) = True := eq_true (by omega)
                                      (try rw [show ((0 : Int)).toNat = 0 from rfl] at hx656_0)
                                      (try rw [show 0 * 4 = 0 from rfl] at hx656_0)
                                      (try rw [Addr.add_zero'] at hx656_0)
                                      (try rw [show ((0 : Int)).toNat = 0 from rfl] at hx656_1)
                                      (try rw [show 0 * 4 = 0 from rfl] at hx656_1)
                                      (try rw [Addr.add_zero'] at hx656_1)
                                      (try rw [show ((0 : Int)).toNat = 0 from rfl] at hx656_2)
                                      (try rw [show 0 * 4 = 0 from rfl] at hx656_2)
                                      (try rw [Addr.add_zero'] at hx656_2)
                                      (try rw [show ((0 : Int)).toNat = 0 from rfl] at hx656_3)
                                      (try rw [show 0 * 4 = 0 from rfl] at hx656_3)
                                      (try rw [Addr.add_zero'] at hx656_3)
                                      replace hx656_0 := (HB.out.cell (World.block_lt_of_cell? w _ hx656_0)).trans hx656_0
                                      replace hx656_1 := (HB.out.cell (World.block_lt_of_cell? w _ hx656_1)).trans hx656_1
                                      replace hx656_2 := (HB.out.cell (World.block_lt_of_cell? w _ hx656_2)).trans hx656_2
                                      replace hx656_3 := (HB.out.cell (World.block_lt_of_cell? w _ hx656_3)).trans hx656_3
                                      have HR656_3 := Aside0.mk hi656_3
                                      have HC656_3 := Aside0.mk hl656_3
                                      clear hi656_3 hl656_3
                                      replace p656 := eq_true p656
                                      replace q656 := eq_true q656
                                      have p658 : 0 ≤ (1 : Int) := (by omega)
                                      have q658 : 1 < (l0_3.length : Int) := of_decide_eq_true (by first | (with_reducible assumption) | assumption)
                                      obtain ⟨ad658, A658_3, c658_3, e658, hx658_0, hx658_1, hx658_2, hx658_3, hl658_3, hi658_3⟩ := at_T29 HR0_3.out 1 p658 q658
                                      have hw658_3 := hx658_3
                                      (try rw [show ((1 : Int)).toNat = 1 from rfl] at hw658_3)
                                      (try rw [show 1 * 4 = 4 from rfl] at hw658_3)
                                      (try simp only [Nat.reduceMul, Nat.reduceEqDiff, Go.Addr.add, ↓reduceIte] at hw658_3)
                                      have hw658_2 := hx658_2
                                      (try rw [show ((1 : Int)).toNat = 1 from rfl] at hw658_2)
                                      (try rw [show 1 * 4 = 4 from rfl] at hw658_2)
                                      (try simp only [Nat.reduceMul, Nat.reduceEqDiff, Go.Addr.add, ↓reduceIte] at hw658_2)
                                      have hw658_1 := hx658_1
                                      (try rw [show ((1 : Int)).toNat = 1 from rfl] at hw658_1)
                                      (try rw [show 1 * 4 = 4 from rfl] at hw658_1)
                                      (try simp only [Nat.reduceMul, Nat.reduceEqDiff, Go.Addr.add, ↓reduceIte] at hw658_1)
                                      have hw658_0 := hx658_0
                                      (try rw [show ((1 : Int)).toNat = 1 from rfl] at hw658_0)
                                      (try rw [show 1 * 4 = 4 from rfl] at hw658_0)
                                      (try simp only [Nat.reduceMul, Nat.reduceEqDiff, Go.Addr.add, ↓reduceIte] at hw658_0)
                                      obtain rfl : ad656 = ad658 := (by injection e658)
                                      (try simp only [show (1 : Int).toNat = 1 from rfl, Nat.reduceMul, Nat.reduceEqDiff, Go.Addr.add, ↓reduceIte] at hx658_0)
                                      (try simp only [show (1 : Int).toNat = 1 from rfl, Nat.reduceMul, Nat.reduceEqDiff, Go.Addr.add, ↓reduceIte] at hx658_1)
                                      (try simp only [show (1 : Int).toNat = 1 from rfl, Nat.reduceMul, Nat.reduceEqDiff, Go.Addr.add, ↓reduceIte] at hx658_2)
                                      (try simp only [show (1 : Int).toNat = 1 from rfl, Nat.reduceMul, Nat.reduceEqDiff, Go.Addr.add, ↓reduceIte] at hx658_3)
                                      have qi658 : (1 < l0_3.length) = True := eq_true (by omega)
                                      (try rw [show ((1 : Int)).toNat = 1 from rfl] at hx658_0)
                                      (try rw [show 1 * 4 = 4 from rfl] at hx658_0)
                                      (try rw [show ((1 : Int)).toNat = 1 from rfl] at hx658_1)
                                      (try rw [show 1 * 4 = 4 from rfl] at hx658_1)
                                      (try rw [show ((1 : Int)).toNat = 1 from rfl] at hx658_2)
                                      (try rw [show 1 * 4 = 4 from rfl] at hx658_2)
                                      (try rw [show ((1 : Int)).toNat = 1 from rfl] at hx658_3)
                                      (try rw [show 1 * 4 = 4 from rfl] at hx658_3)
                                      replace hx658_0 := (HB.out.cell (World.block_lt_of_cell? w _ hx658_0)).trans hx658_0
                                      replace hx658_1 := (HB.out.cell (World.block_lt_of_cell? w _ hx658_1)).trans hx658_1
                                      replace hx658_2 := (HB.out.cell (World.block_lt_of_cell? w _ hx658_2)).trans hx658_2
                                      replace hx658_3 := (HB.out.cell (World.block_lt_of_cell? w _ hx658_3)).trans hx658_3
                                      have HR658_3 := Aside0.mk hi658_3
                                      have HC658_3 := Aside0.mk hl658_3
                                      clear hi658_3 hl658_3
                                      replace p658 := eq_true p658
                                      replace q658 := eq_true q658
                                      refine start_ (n := 15) (S := fun w' => w'.cell? ⟨gb651, 0, none⟩ = some (.int .i64 a0_0) ∧ w'.cell? ⟨gb651, 1, none⟩ = some (.string a0_1) ∧ w'.cell? ⟨gb651, 2, none⟩ = some (.int .i64 a0_2) ∧ w'.cell? ⟨gb651, 3, none⟩ = some (.slice (some ad656) l0_3.length c0_3) ∧ w'.cell? ad656 = some (.int .i64 ((rd_T29 l0_3 0).f0)) ∧ w'.cell? ⟨ad656.block, ad656.off + 1, none⟩ = some (.string ((rd_T29 l0_3 0).f1)) ∧ w'.cell? ⟨ad656.block, ad656.off + 2, none⟩ = some (.int .i64 ((rd_T29 l0_3 0).f2)) ∧ w'.cell? ⟨ad656.block, ad656.off + 3, none⟩ = some (.slice A656_3 ((rd_T29 l0_3 0).f3).length c656_3) ∧ w'.cell? ⟨ad656.block, ad656.off + 4, none⟩ = some (.int .i64 ((rd_T29 l0_3 1).f0)) ∧ w'.cell? ⟨ad656.block, ad656.off + 4 + 1, none⟩ = some (.string ((rd_T29 l0_3 1).f1)) ∧ w'.cell? ⟨ad656.block, ad656.off + 4 + 2, none⟩ = some (.int .i64 ((rd_T29 l0_3 1).f2)) ∧ w'.cell? ⟨ad656.block, ad656.off + 4 + 3, none⟩ = some (.slice A658_3 ((rd_T29 l0_3 1).f3).length c658_3)) (ds := []) #[false, false, false, false, false, false, false, false, false, false, false, false, false, false, false] (by kernel_rfl) rfl rfl ⟨(blk_cell BK651.out 0).trans rfl, (blk_cell BK651.out 1).trans rfl, (blk_cell BK651.out 2).trans rfl, (blk_cell BK651.out 3).trans rfl, ((HB.out.cell (World.block_lt_of_cell? w _ hw656_0)).trans hw656_0), ((HB.out.cell (World.block_lt_of_cell? w _ hw656_1)).trans hw656_1), ((HB.out.cell (World.block_lt_of_cell? w _ hw656_2)).trans hw656_2), ((HB.out.cell (World.block_lt_of_cell? w _ hw656_3)).trans hw656_3), ((HB.out.cell (World.block_lt_of_cell? w _ hw658_0)).trans hw658_0), ((HB.out.cell (World.block_lt_of_cell? w _ hw658_1)).trans hw658_1), ((HB.out.cell (World.block_lt_of_cell? w _ hw658_2)).trans hw658_2), ((HB.out.cell (World.block_lt_of_cell? w _ hw658_3)).trans hw658_3)⟩ (fun hHeld => ?_); refine with_tabW impl_opticText.tab25 impl_opticText.bits25 (fun HT_ HW_ => ?_)
                                      generalize w57.drew = w59 at BK651 HB HR656_3 HR658_3 hx656_0 hx656_1 hx656_2 hx656_3 hx658_0 hx658_1 hx658_2 hx658_3 hHeld ⊢
                                      refine pure_ (i := 0) (N := some 52) (v := ?_) (a' := ?_) #[true, false, false, false, false, false, false, false, false, false, false, false, false, false, false] rfl rfl (any_of HT_.out (by kernel_rfl)) (fun _ _ _ h => h) (Or.inl ⟨by rfl, ?_⟩) ?_ ?_
                                      rotate_left
                                      · intro w'
                                        go_simp
                                        with_reducible rfl
                                      rotate_left
                                      · simp only [Act.put, List.setIfInBounds_toArray, List.set_cons_zero, List.set_cons_succ, i64_w, i32_w]
                                        rfl
                                      refine pure_ (i := 7) (N := some 59) (v := ?_) (a' := ?_) #[true, false, false, false, false, false, false, true, false, false, false, false, false, false, false] rfl rfl (any_of HT_.out (by kernel_rfl)) (fun _ _ _ h => h) (Or.inl ⟨by rfl, ?_⟩) ?_ ?_
                                      rotate_left
                                      · intro w'
                                        go_simp
                                        with_reducible rfl
                                      rotate_left
                                      · simp only [Act.put, List.setIfInBounds_toArray, List.set_cons_zero, List.set_cons_succ, i64_w, i32_w]
                                        rfl
                                      refine take_ (i := 1) (N := some 53) (v := ?_) (a' := ?_) #[true, true, false, false, false, false, false, true, false, false, false, false, false, false, false] rfl rfl (take_ofW HT_.out HW_.out (by kernel_rfl)) (fun _ _ _ h => h) (Or.inl ⟨by rfl, ?_⟩) hHeld ?_ ?_
                                      rotate_left
                                      · rintro w' ⟨s0, s1, s2, s3, s4, s5, s6, s7, s8, s9, s10, s11⟩
                                        go_simp
                                        with_reducible rfl
                                      rotate_left
                                      · simp only [Act.put, List.setIfInBounds_toArray, List.set_cons_zero, List.set_cons_succ, i64_w, i32_w]
                                        rfl
                                      refine pure_ (i := 2) (N := some 54) (v := ?_) (a' := ?_) #[true, true, true, false, false, false, false, true, false, false, false, false, false, false, false] rfl rfl (any_of HT_.out (by kernel_rfl)) (fun _ _ _ h => h) (Or.inl ⟨by rfl, ?_⟩) ?_ ?_
                                      rotate_left
                                      · intro w'
                                        go_simp
                                        with_reducible rfl
                                      rotate_left
                                      · simp only [Act.put, List.setIfInBounds_toArray, List.set_cons_zero, List.set_cons_succ, i64_w, i32_w]
                                        rfl
                                      refine take_ (i := 3) (N := some 55) (v := ?_) (a' := ?_) #[true, true, true, true, false, false, false, true, false, false, false, false, false, false, false] rfl rfl (take_ofW HT_.out HW_.out (by kernel_rfl)) (fun _ _ _ h => h) (Or.inl ⟨by rfl, ?_⟩) hHeld ?_ ?_
                                      rotate_left
                                      · rintro w' ⟨s0, s1, s2, s3, s4, s5, s6, s7, s8, s9, s10, s11⟩
                                        go_simp
                                        with_reducible rfl
                                      rotate_left
                                      · simp only [Act.put, List.setIfInBounds_toArray, List.set_cons_zero, List.set_cons_succ, i64_w, i32_w]
                                        rfl
                                      refine take_ (i := 8) (N := some 60) (v := ?_) (a' := ?_) #[true, true, true, true, false, false, false, true, true, false, false, false, false, false, false] rfl rfl (take_ofW HT_.out HW_.out (by kernel_rfl)) (fun _ _ _ h => h) (Or.inl ⟨by rfl, ?_⟩) hHeld ?_ ?_
                                      rotate_left
                                      · rintro w' ⟨s0, s1, s2, s3, s4, s5, s6, s7, s8, s9, s10, s11⟩
                                        go_simp
                                        with_reducible rfl
                                      rotate_left
                                      · simp only [Act.put, List.setIfInBounds_toArray, List.set_cons_zero, List.set_cons_succ, i64_w, i32_w]
                                        rfl
                                      refine pure_ (i := 9) (N := some 61) (v := ?_) (a' := ?_) #[true, true, true, true, false, false, false, true, true, true, false, false, false, false, false] rfl rfl (any_of HT_.out (by kernel_rfl)) (fun _ _ _ h => h) (Or.inl ⟨by rfl, ?_⟩) ?_ ?_
                                      rotate_left
                                      · intro w'
                                        go_simp
                                        with_reducible rfl
                                      rotate_left
                                      · simp only [Act.put, List.setIfInBounds_toArray, List.set_cons_zero, List.set_cons_succ, i64_w, i32_w]
                                        rfl
                                      refine take_ (i := 10) (N := some 62) (v := ?_) (a' := ?_) #[true, true, true, true, false, false, false, true, true, true, true, false, false, false, false] rfl rfl (take_ofW HT_.out HW_.out (by kernel_rfl)) (fun _ _ _ h => h) (Or.inl ⟨by rfl, ?_⟩) hHeld ?_ ?_
                                      rotate_left
                                      · rintro w' ⟨s0, s1, s2, s3, s4, s5, s6, s7, s8, s9, s10, s11⟩
                                        go_simp
                                        with_reducible rfl
                                      rotate_left
                                      · simp only [Act.put, List.setIfInBounds_toArray, List.set_cons_zero, List.set_cons_succ, i64_w, i32_w]
                                        rfl
                                      refine one_ (i := 4) (N := some 56) #[true, true, true, true, true, false, false, true, true, true, true, false, false, false, false] rfl rfl (one_of HT_.out (by kernel_rfl)) (by decide) (fun K hK => ?_)
                                      refine goes_ Try.func58 (by kernel_rfl) rfl #[.agg #[.int .i64 ((rd_T29 l0_3 0).f0), .string ((rd_T29 l0_3 0).f1), .int .i64 ((rd_T29 l0_3 0).f2), .slice A656_3 ((rd_T29 l0_3 0).f3).length c656_3]] (by rfl) rfl rfl (by (try simp only [List.map_toArray, List.map_cons, List.map_nil]); first | done | rfl | (simp only [List.length_drop, List.length_take]; rfl)) ?_
                                      with_reducible refine (ih k (by omega) ((rd_T29 l0_3 0).f0) ((rd_T29 l0_3 0).f1) ((rd_T29 l0_3 0).f2) _ _ ((rd_T29 l0_3 0).f3) t657 _ ?side1 ?side2 A50.out).mono ?_
                                      (case side1 => repeat (first | exact (Kd.C_below HR656_3.out HB.out) | (with_reducible refine Kd.C_alloc ?_ _) | (with_reducible refine Kd.C_drewN ?_ _) | (with_reducible refine Kd.C_drew ?_)))
                                      (case side2 => exact HC656_3.out)
                                      rintro e w60 ⟨rfl, hb⟩
                                      refine ⟨_, rfl, ?_⟩
                                      have n0_ := Aside0.mk (blk_below (g := gb651) (o := .cells #[.int .i64 a0_0, .string a0_1, .int .i64 a0_2, .slice (some ad656) l0_3.length c0_3] 29 (0, 0)) (by (with_reducible repeat (first | refine blk_drewN ?_ _ | refine blk_drew ?_ | refine blk_alloc ?_ _)); exact BK651.out) hb)
                                      have n1_ := Aside0.mk (below_step (by repeat (first | (with_reducible first | exact HB.out | apply below_alloc | apply pw_below_drewN | apply below_drew1 | refine below_set ?_ GE651.out) | exact HB.out)) hb)
                                      clear BK651
                                      clear HB
                                      have BK651 := n0_
                                      have HB := n1_
                                      clear n0_ n1_
                                      (try clear hb)
                                      (try clear hb2)
                                      (try clear hk)
                                      (try clear hi)
                                      refine hK.out _ _ ⟨(blk_cell BK651.out 0).trans rfl, (blk_cell BK651.out 1).trans rfl, (blk_cell BK651.out 2).trans rfl, (blk_cell BK651.out 3).trans rfl, ((HB.out.cell (World.block_lt_of_cell? w _ hw656_0)).trans hw656_0), ((HB.out.cell (World.block_lt_of_cell? w _ hw656_1)).trans hw656_1), ((HB.out.cell (World.block_lt_of_cell? w _ hw656_2)).trans hw656_2), ((HB.out.cell (World.block_lt_of_cell? w _ hw656_3)).trans hw656_3), ((HB.out.cell (World.block_lt_of_cell? w _ hw658_0)).trans hw658_0), ((HB.out.cell (World.block_lt_of_cell? w _ hw658_1)).trans hw658_1), ((HB.out.cell (World.block_lt_of_cell? w _ hw658_2)).trans hw658_2), ((HB.out.cell (World.block_lt_of_cell? w _ hw658_3)).trans hw658_3)⟩ (fun hHeld => ?_)
                                      clear hK K
                                      refine norm_ (a' := ?_) ?_ ?_
                                      rotate_left
                                      · show Act.put _ (some 56) _ = _
                                        simp only [Act.put, List.setIfInBounds_toArray, List.set_cons_zero, List.set_cons_succ, i64_w, i32_w]
                                        rfl
                                      refine pure_ (i := 5) (N := some 57) (v := ?_) (a' := ?_) #[true, true, true, true, true, true, false, true, true, true, true, false, false, false, false] rfl rfl (any_of HT_.out (by kernel_rfl)) (fun _ _ _ h => h) (Or.inl ⟨by rfl, ?_⟩) ?_ ?_
                                      rotate_left
                                      · intro w'
                                        go_simp
                                        with_reducible rfl
                                      rotate_left
                                      · simp only [Act.put, List.setIfInBounds_toArray, List.set_cons_zero, List.set_cons_succ, i64_w, i32_w]
                                        rfl
                                      refine pure_ (i := 6) (N := some 58) (v := ?_) (a' := ?_) #[true, true, true, true, true, true, true, true, true, true, true, false, false, false, false] rfl rfl (any_of HT_.out (by kernel_rfl)) (fun _ _ _ h => h) (Or.inl ⟨by rfl, ?_⟩) ?_ ?_
                                      rotate_left
                                      · intro w'
                                        go_simp
                                        with_reducible rfl
                                      rotate_left
                                      · simp only [Act.put, List.setIfInBounds_toArray, List.set_cons_zero, List.set_cons_succ, i64_w, i32_w]
                                        rfl
                                      refine one_ (i := 11) (N := some 63) #[true, true, true, true, true, true, true, true, true, true, true, true, false, false, false] rfl rfl (one_of HT_.out (by kernel_rfl)) (by decide) (fun K hK => ?_)
                                      refine goes_ Try.func58 (by kernel_rfl) rfl #[.agg #[.int .i64 ((rd_T29 l0_3 1).f0), .string ((rd_T29 l0_3 1).f1), .int .i64 ((rd_T29 l0_3 1).f2), .slice A658_3 ((rd_T29 l0_3 1).f3).length c658_3]] (by rfl) rfl rfl (by (try simp only [List.map_toArray, List.map_cons, List.map_nil]); first | done | rfl | (simp only [List.length_drop, List.length_take]; rfl)) ?_
                                      with_reducible refine (ih k (by omega) ((rd_T29 l0_3 1).f0) ((rd_T29 l0_3 1).f1) ((rd_T29 l0_3 1).f2) _ _ ((rd_T29 l0_3 1).f3) t659 _ ?side1 ?side2 A54.out).mono ?_
                                      (case side1 => repeat (first | exact (Kd.C_below HR658_3.out HB.out) | (with_reducible refine Kd.C_alloc ?_ _) | (with_reducible refine Kd.C_drewN ?_ _) | (with_reducible refine Kd.C_drew ?_)))
                                      (case side2 => exact HC658_3.out)
                                      rintro e w61 ⟨rfl, hb⟩
                                      refine ⟨_, rfl, ?_⟩
                                      have n0_ := Aside0.mk (blk_below (g := gb651) (o := .cells #[.int .i64 a0_0, .string a0_1, .int .i64 a0_2, .slice (some ad656) l0_3.length c0_3] 29 (0, 0)) (by (with_reducible repeat (first | refine blk_drewN ?_ _ | refine blk_drew ?_ | refine blk_alloc ?_ _)); exact BK651.out) hb)
                                      have n1_ := Aside0.mk (below_step (by repeat (first | (with_reducible first | exact HB.out | apply below_alloc | apply pw_below_drewN | apply below_drew1 | refine below_set ?_ GE651.out) | exact HB.out)) hb)
                                      clear BK651
                                      clear HB
                                      have BK651 := n0_
                                      have HB := n1_
                                      clear n0_ n1_
                                      (try clear hb)
                                      (try clear hb2)
                                      (try clear hk)
                                      (try clear hi)
                                      refine hK.out _ _ ⟨(blk_cell BK651.out 0).trans rfl, (blk_cell BK651.out 1).trans rfl, (blk_cell BK651.out 2).trans rfl, (blk_cell BK651.out 3).trans rfl, ((HB.out.cell (World.block_lt_of_cell? w _ hw656_0)).trans hw656_0), ((HB.out.cell (World.block_lt_of_cell? w _ hw656_1)).trans hw656_1), ((HB.out.cell (World.block_lt_of_cell? w _ hw656_2)).trans hw656_2), ((HB.out.cell (World.block_lt_of_cell? w _ hw656_3)).trans hw656_3), ((HB.out.cell (World.block_lt_of_cell? w _ hw658_0)).trans hw658_0), ((HB.out.cell (World.block_lt_of_cell? w _ hw658_1)).trans hw658_1), ((HB.out.cell (World.block_lt_of_cell? w _ hw658_2)).trans hw658_2), ((HB.out.cell (World.block_lt_of_cell? w _ hw658_3)).trans hw658_3)⟩ (fun hHeld => ?_)
                                      clear hK K
                                      refine norm_ (a' := ?_) ?_ ?_
                                      rotate_left
                                      · show Act.put _ (some 63) _ = _
                                        simp only [Act.put, List.setIfInBounds_toArray, List.set_cons_zero, List.set_cons_succ, i64_w, i32_w]
                                        rfl
                                      refine pure_ (i := 12) (N := some 64) (v := ?_) (a' := ?_) #[true, true, true, true, true, true, true, true, true, true, true, true, true, false, false] rfl rfl (any_of HT_.out (by kernel_rfl)) (fun _ _ _ h => h) (Or.inl ⟨by rfl, ?_⟩) ?_ ?_
                                      rotate_left
                                      · intro w'
                                        go_simp
                                        with_reducible rfl
                                      rotate_left
                                      · simp only [Act.put, List.setIfInBounds_toArray, List.set_cons_zero, List.set_cons_succ, i64_w, i32_w]
                                        rfl
                                      refine pure_ (i := 13) (N := some 65) (v := ?_) (a' := ?_) #[true, true, true, true, true, true, true, true, true, true, true, true, true, true, false] rfl rfl (any_of HT_.out (by kernel_rfl)) (fun _ _ _ h => h) (Or.inl ⟨by rfl, ?_⟩) ?_ ?_
                                      rotate_left
                                      · intro w'
                                        go_simp
                                        with_reducible rfl
                                      rotate_left
                                      · simp only [Act.put, List.setIfInBounds_toArray, List.set_cons_zero, List.set_cons_succ, i64_w, i32_w]
                                        rfl
                                      refine pure_ (i := 14) (N := some 2) (v := ?_) (a' := ?_) #[true, true, true, true, true, true, true, true, true, true, true, true, true, true, true] rfl rfl (any_of HT_.out (by kernel_rfl)) (fun _ _ _ h => h) (Or.inl ⟨by rfl, ?_⟩) ?_ ?_
                                      rotate_left
                                      · intro w'
                                        go_simp
                                        with_reducible rfl
                                      rotate_left
                                      · simp only [Act.put, List.setIfInBounds_toArray, List.set_cons_zero, List.set_cons_succ, i64_w, i32_w]
                                        rfl
                                      refine done_ (done_of HT_.out (by kernel_rfl)) ?_
                                      try go_wp2
                                      go_ret
                                      exact ⟨by first | rfl | (simp [errW_none, errW_some] <;> rfl) | (simp [*, errW_none, errW_some] <;> rfl), by repeat (first | (with_reducible first | exact HB.out | apply below_alloc | apply pw_below_drewN | apply below_drew1 | refine below_set ?_ GE651.out) | exact HB.out)⟩
                                    · rw [if_neg c56] at H
                                      exact absurd H (by simp)
                                  · rw [if_neg c55] at H
                                    exact absurd H (by simp)
                                · rw [if_neg c53] at H
                                  exact absurd H (by simp)
                              · rw [if_neg c52] at H
                                exact absurd H (by simp)
                            · rw [if_neg c51] at H
                              exact absurd H (by simp)
                          · rw [if_neg c49] at H
                            exact absurd H (by simp)
                        · rw [if_neg c48] at H
                          have c48b0 : (a0_0 == 12) = false := beq_eq_false_iff_ne.mpr c48
                          have c48b1 : (a0_0 != 12) = true := bne_iff_ne.mpr c48
                          by_cases c62 : 0 < (l0_3.length : Int)
                          · rw [if_pos c62] at H
                            have c62b0 : decide (0 < (l0_3.length : Int)) = true := decide_eq_true c62
                            have c62b1 : decide (0 < l0_3.length) = true := decide_eq_true (by omega)
                            clear c62
                            replace H := Option.bind_eq_some_iff.mp H
                            obtain ⟨t661, A630, H⟩ := H
                            replace H : (if 1 + t661.size ≤ 9223372036854775807 then (if ((⟨#[40]⟩ : ByteArray) ++ t661).size + 1 ≤ 9223372036854775807 then (if 1 < (l0_3.length : Int) then ((impl_opticText.f k ((rd_T29 l0_3 1).f0) ((rd_T29 l0_3 1).f1) ((rd_T29 l0_3 1).f2) ((rd_T29 l0_3 1).f3)).bind fun t663 => (if (((⟨#[40]⟩ : ByteArray) ++ t661) ++ (⟨#[124]⟩ : ByteArray)).size + t663.size ≤ 9223372036854775807 then (if ((((⟨#[40]⟩ : ByteArray) ++ t661) ++ (⟨#[124]⟩ : ByteArray)) ++ t663).size + 1 ≤ 9223372036854775807 then (some (((((⟨#[40]⟩ : ByteArray) ++ t661) ++ (⟨#[124]⟩ : ByteArray)) ++ t663) ++ (⟨#[41]⟩ : ByteArray))) else (none)) else (none))) else (none)) else (none)) else (none)) = some r := H
                            have A63 := Aside0.mk A630
                            clear A630
                            by_cases c64 : 1 + t661.size ≤ 9223372036854775807
                            · rw [if_pos c64] at H
                              have c64b0 := eq_true c64
                              have c64b1 : decide (1 + t661.size ≤ 9223372036854775807) = true := decide_eq_true c64
                              try have c64b2 : (9223372036854775807 < 1 + t661.size) = False := eq_false (Nat.not_lt.2 c64)
                              by_cases c65 : ((⟨#[40]⟩ : ByteArray) ++ t661).size + 1 ≤ 9223372036854775807
                              · rw [if_pos c65] at H
                                have c65b0 := eq_true c65
                                have c65b1 : decide (((⟨#[40]⟩ : ByteArray) ++ t661).size + 1 ≤ 9223372036854775807) = true := decide_eq_true c65
                                try have c65b2 : (9223372036854775807 < ((⟨#[40]⟩ : ByteArray) ++ t661).size + 1) = False := eq_false (Nat.not_lt.2 c65)
                                try have c65b3 : ((1 + t661.size) + 1 ≤ 9223372036854775807) = True := eq_true (by have h_ := c65; simp only [ByteArray.size_append] at h_; exact h_)
                                try have c65b4 : (9223372036854775807 < (1 + t661.size) + 1) = False := eq_false (by have h_ := c65; simp only [ByteArray.size_append] at h_; exact Nat.not_lt.2 h_)
                                by_cases c66 : 1 < (l0_3.length : Int)
                                · rw [if_pos c66] at H
                                  have c66b0 : decide (1 < (l0_3.length : Int)) = true := decide_eq_true c66
                                  have c66b1 : decide (1 < l0_3.length) = true := decide_eq_true (by omega)
                                  clear c66
                                  replace H := Option.bind_eq_some_iff.mp H
                                  obtain ⟨t663, A670, H⟩ := H
                                  replace H : (if (((⟨#[40]⟩ : ByteArray) ++ t661) ++ (⟨#[124]⟩ : ByteArray)).size + t663.size ≤ 9223372036854775807 then (if ((((⟨#[40]⟩ : ByteArray) ++ t661) ++ (⟨#[124]⟩ : ByteArray)) ++ t663).size + 1 ≤ 9223372036854775807 then (some (((((⟨#[40]⟩ : ByteArray) ++ t661) ++ (⟨#[124]⟩ : ByteArray)) ++ t663) ++ (⟨#[41]⟩ : ByteArray))) else (none)) else (none)) = some r := H
                                  have A67 := Aside0.mk A670
                                  clear A670
                                  by_cases c68 : (((⟨#[40]⟩ : ByteArray) ++ t661) ++ (⟨#[124]⟩ : ByteArray)).size + t663.size ≤ 9223372036854775807
                                  · rw [if_pos c68] at H
                                    have c68b0 := eq_true c68
                                    have c68b1 : decide ((((⟨#[40]⟩ : ByteArray) ++ t661) ++ (⟨#[124]⟩ : ByteArray)).size + t663.size ≤ 9223372036854775807) = true := decide_eq_true c68
                                    try have c68b2 : (9223372036854775807 < (((⟨#[40]⟩ : ByteArray) ++ t661) ++ (⟨#[124]⟩ : ByteArray)).size + t663.size) = False := eq_false (Nat.not_lt.2 c68)
                                    try have c68b3 : (((1 + t661.size) + 1) + t663.size ≤ 9223372036854775807) = True := eq_true (by have h_ := c68; simp only [ByteArray.size_append] at h_; exact h_)
                                    try have c68b4 : (9223372036854775807 < ((1 + t661.size) + 1) + t663.size) = False := eq_false (by have h_ := c68; simp only [ByteArray.size_append] at h_; exact Nat.not_lt.2 h_)
                                    by_cases c69 : ((((⟨#[40]⟩ : ByteArray) ++ t661) ++ (⟨#[124]⟩ : ByteArray)) ++ t663).size + 1 ≤ 9223372036854775807
                                    · rw [if_pos c69] at H
                                      have c69b0 := eq_true c69
                                      have c69b1 : decide (((((⟨#[40]⟩ : ByteArray) ++ t661) ++ (⟨#[124]⟩ : ByteArray)) ++ t663).size + 1 ≤ 9223372036854775807) = true := decide_eq_true c69
                                      try have c69b2 : (9223372036854775807 < ((((⟨#[40]⟩ : ByteArray) ++ t661) ++ (⟨#[124]⟩ : ByteArray)) ++ t663).size + 1) = False := eq_false (Nat.not_lt.2 c69)
                                      try have c69b3 : ((((1 + t661.size) + 1) + t663.size) + 1 ≤ 9223372036854775807) = True := eq_true (by have h_ := c69; simp only [ByteArray.size_append] at h_; exact h_)
                                      try have c69b4 : (9223372036854775807 < (((1 + t661.size) + 1) + t663.size) + 1) = False := eq_false (by have h_ := c69; simp only [ByteArray.size_append] at h_; exact Nat.not_lt.2 h_)
                                      obtain rfl := Option.some.inj H
                                      go_enter Try.func58, Try.ntmps58
                                      try go_wp2_with (first | ((with_reducible refine gate_dst (N := 1) rfl ?_); refine box_event ?hg (N := 1) ?hd (cs := #[.int .i64 a0_0, .string a0_1, .int .i64 a0_2, .slice A0_3 l0_3.length c0_3]) (t := 29) ?hr ?_; (case hd => rfl); (case hg => rfl); (case hr => first | (go_simp; done) | (go_simp; rfl)); intro gb651 hg w70 hbox hb; have n0_ := Aside0.mk (below_step (by repeat (first | (with_reducible first | exact HB.out | apply below_alloc | apply pw_below_drewN | apply below_drew1) | exact HB.out)) hb); have n1_ := Aside0.mk (hbox); have n2_ := Aside0.mk ((by rw [hg]; exact (below_size (by repeat (first | (with_reducible first | exact HB.out | apply below_alloc | apply pw_below_drewN | apply below_drew1) | exact HB.out))) : w.heap.size ≤ gb651)); have n3_ := Aside0.mk ((by rw [hg]; exact (below_size (by repeat (first | (with_reducible first | exact HB.out | apply below_alloc | apply pw_below_drewN | apply below_drew1) | exact HB.out))) : w.heap.size ≤ gb651)); clear HB; have HB := n0_; have BK651 := n1_; have GW651 := n2_; have GE651 := n3_; clear n0_ n1_ n2_ n3_; clear hb hbox hg; have hcz71_0 : w70.cell? ⟨gb651, 0, none⟩ = some (.int .i64 a0_0) := (blk_cell BK651.out 0).trans rfl; have hcz71_1 : w70.cell? ⟨gb651, 1, none⟩ = some (.string a0_1) := (blk_cell BK651.out 1).trans rfl; have hcz71_2 : w70.cell? ⟨gb651, 2, none⟩ = some (.int .i64 a0_2) := (blk_cell BK651.out 2).trans rfl; have hcz71_3 : w70.cell? ⟨gb651, 3, none⟩ = some (.slice A0_3 l0_3.length c0_3) := (blk_cell BK651.out 3).trans rfl; have hfz71_0 := blk_frozen BK651.out 0; have hfz71_1 := blk_frozen BK651.out 1; have hfz71_2 := blk_frozen BK651.out 2; have hfz71_3 := blk_frozen BK651.out 3))
                                      have n0_ := Aside0.mk (blk_drew BK651.out)
                                      have n1_ := Aside0.mk (below_drew1 HB.out)
                                      clear BK651
                                      clear HB
                                      have BK651 := n0_
                                      have HB := n1_
                                      clear n0_ n1_
                                      have p660 : 0 ≤ (0 : Int) := (by omega)
                                      have q660 : 0 < (l0_3.length : Int) := of_decide_eq_true (by first | (with_reducible assumption) | assumption)
                                      obtain ⟨ad660, A660_3, c660_3, e660, hx660_0, hx660_1, hx660_2, hx660_3, hl660_3, hi660_3⟩ := at_T29 HR0_3.out 0 p660 q660
                                      have hw660_3 := hx660_3
                                      (try rw [show ((0 : Int)).toNat = 0 from rfl] at hw660_3)
                                      (try rw [show 0 * 4 = 0 from rfl] at hw660_3)
                                      (try rw [Addr.add_zero'] at hw660_3)
                                      have hw660_2 := hx660_2
                                      (try rw [show ((0 : Int)).toNat = 0 from rfl] at hw660_2)
                                      (try rw [show 0 * 4 = 0 from rfl] at hw660_2)
                                      (try rw [Addr.add_zero'] at hw660_2)
                                      have hw660_1 := hx660_1
                                      (try rw [show ((0 : Int)).toNat = 0 from rfl] at hw660_1)
                                      (try rw [show 0 * 4 = 0 from rfl] at hw660_1)
                                      (try rw [Addr.add_zero'] at hw660_1)
                                      have hw660_0 := hx660_0
                                      (try rw [show ((0 : Int)).toNat = 0 from rfl] at hw660_0)
                                      (try rw [show 0 * 4 = 0 from rfl] at hw660_0)
                                      (try rw [Addr.add_zero'] at hw660_0)
                                      cases e660
                                      have qi660 : (0 < l0_3.length) = True := eq_true (by omega)
                                      (try rw [show ((0 : Int)).toNat = 0 from rfl] at hx660_0)
                                      (try rw [show 0 * 4 = 0 from rfl] at hx660_0)
                                      (try rw [Addr.add_zero'] at hx660_0)
                                      (try rw [show ((0 : Int)).toNat = 0 from rfl] at hx660_1)
                                      (try rw [show 0 * 4 = 0 from rfl] at hx660_1)
                                      (try rw [Addr.add_zero'] at hx660_1)
                                      (try rw [show ((0 : Int)).toNat = 0 from rfl] at hx660_2)
                                      (try rw [show 0 * 4 = 0 from rfl] at hx660_2)
                                      (try rw [Addr.add_zero'] at hx660_2)
                                      (try rw [show ((0 : Int)).toNat = 0 from rfl] at hx660_3)
                                      (try rw [show 0 * 4 = 0 from rfl] at hx660_3)
                                      (try rw [Addr.add_zero'] at hx660_3)
                                      replace hx660_0 := (HB.out.cell (World.block_lt_of_cell? w _ hx660_0)).trans hx660_0
                                      replace hx660_1 := (HB.out.cell (World.block_lt_of_cell? w _ hx660_1)).trans hx660_1
                                      replace hx660_2 := (HB.out.cell (World.block_lt_of_cell? w _ hx660_2)).trans hx660_2
                                      replace hx660_3 := (HB.out.cell (World.block_lt_of_cell? w _ hx660_3)).trans hx660_3
                                      have HR660_3 := Aside0.mk hi660_3
                                      have HC660_3 := Aside0.mk hl660_3
                                      clear hi660_3 hl660_3
                                      replace p660 := eq_true p660
                                      replace q660 := eq_true q660
                                      have p662 : 0 ≤ (1 : Int) := (by omega)
                                      have q662 : 1 < (l0_3.length : Int) := of_decide_eq_true (by first | (with_reducible assumption) | assumption)
                                      obtain ⟨ad662, A662_3, c662_3, e662, hx662_0, hx662_1, hx662_2, hx662_3, hl662_3, hi662_3⟩ := at_T29 HR0_3.out 1 p662 q662
                                      have hw662_3 := hx662_3
                                      (try rw [show ((1 : Int)).toNat = 1 from rfl] at hw662_3)
                                      (try rw [show 1 * 4 = 4 from rfl] at hw662_3)
                                      (try simp only [Nat.reduceMul, Nat.reduceEqDiff, Go.Addr.add, ↓reduceIte] at hw662_3)
                                      have hw662_2 := hx662_2
                                      (try rw [show ((1 : Int)).toNat = 1 from rfl] at hw662_2)
                                      (try rw [show 1 * 4 = 4 from rfl] at hw662_2)
                                      (try simp only [Nat.reduceMul, Nat.reduceEqDiff, Go.Addr.add, ↓reduceIte] at hw662_2)
                                      have hw662_1 := hx662_1
                                      (try rw [show ((1 : Int)).toNat = 1 from rfl] at hw662_1)
                                      (try rw [show 1 * 4 = 4 from rfl] at hw662_1)
                                      (try simp only [Nat.reduceMul, Nat.reduceEqDiff, Go.Addr.add, ↓reduceIte] at hw662_1)
                                      have hw662_0 := hx662_0
                                      (try rw [show ((1 : Int)).toNat = 1 from rfl] at hw662_0)
                                      (try rw [show 1 * 4 = 4 from rfl] at hw662_0)
                                      (try simp only [Nat.reduceMul, Nat.reduceEqDiff, Go.Addr.add, ↓reduceIte] at hw662_0)
                                      obtain rfl : ad660 = ad662 := (by injection e662)
                                      (try simp only [show (1 : Int).toNat = 1 from rfl, Nat.reduceMul, Nat.reduceEqDiff, Go.Addr.add, ↓reduceIte] at hx662_0)
                                      (try simp only [show (1 : Int).toNat = 1 from rfl, Nat.reduceMul, Nat.reduceEqDiff, Go.Addr.add, ↓reduceIte] at hx662_1)
                                      (try simp only [show (1 : Int).toNat = 1 from rfl, Nat.reduceMul, Nat.reduceEqDiff, Go.Addr.add, ↓reduceIte] at hx662_2)
                                      (try simp only [show (1 : Int).toNat = 1 from rfl, Nat.reduceMul, Nat.reduceEqDiff, Go.Addr.add, ↓reduceIte] at hx662_3)
                                      have qi662 : (1 < l0_3.length) = True := eq_true (by omega)
                                      (try rw [show ((1 : Int)).toNat = 1 from rfl] at hx662_0)
                                      (try rw [show 1 * 4 = 4 from rfl] at hx662_0)
                                      (try rw [show ((1 : Int)).toNat = 1 from rfl] at hx662_1)
                                      (try rw [show 1 * 4 = 4 from rfl] at hx662_1)
                                      (try rw [show ((1 : Int)).toNat = 1 from rfl] at hx662_2)
                                      (try rw [show 1 * 4 = 4 from rfl] at hx662_2)
                                      (try rw [show ((1 : Int)).toNat = 1 from rfl] at hx662_3)
                                      (try rw [show 1 * 4 = 4 from rfl] at hx662_3)
                                      replace hx662_0 := (HB.out.cell (World.block_lt_of_cell? w _ hx662_0)).trans hx662_0
                                      replace hx662_1 := (HB.out.cell (World.block_lt_of_cell? w _ hx662_1)).trans hx662_1
                                      replace hx662_2 := (HB.out.cell (World.block_lt_of_cell? w _ hx662_2)).trans hx662_2
                                      replace hx662_3 := (HB.out.cell (World.block_lt_of_cell? w _ hx662_3)).trans hx662_3
                                      have HR662_3 := Aside0.mk hi662_3
                                      have HC662_3 := Aside0.mk hl662_3
                                      clear hi662_3 hl662_3
                                      replace p662 := eq_true p662
                                      replace q662 := eq_true q662
                                      refine start_ (n := 15) (S := fun w' => w'.cell? ⟨gb651, 0, none⟩ = some (.int .i64 a0_0) ∧ w'.cell? ⟨gb651, 1, none⟩ = some (.string a0_1) ∧ w'.cell? ⟨gb651, 2, none⟩ = some (.int .i64 a0_2) ∧ w'.cell? ⟨gb651, 3, none⟩ = some (.slice (some ad660) l0_3.length c0_3) ∧ w'.cell? ad660 = some (.int .i64 ((rd_T29 l0_3 0).f0)) ∧ w'.cell? ⟨ad660.block, ad660.off + 1, none⟩ = some (.string ((rd_T29 l0_3 0).f1)) ∧ w'.cell? ⟨ad660.block, ad660.off + 2, none⟩ = some (.int .i64 ((rd_T29 l0_3 0).f2)) ∧ w'.cell? ⟨ad660.block, ad660.off + 3, none⟩ = some (.slice A660_3 ((rd_T29 l0_3 0).f3).length c660_3) ∧ w'.cell? ⟨ad660.block, ad660.off + 4, none⟩ = some (.int .i64 ((rd_T29 l0_3 1).f0)) ∧ w'.cell? ⟨ad660.block, ad660.off + 4 + 1, none⟩ = some (.string ((rd_T29 l0_3 1).f1)) ∧ w'.cell? ⟨ad660.block, ad660.off + 4 + 2, none⟩ = some (.int .i64 ((rd_T29 l0_3 1).f2)) ∧ w'.cell? ⟨ad660.block, ad660.off + 4 + 3, none⟩ = some (.slice A662_3 ((rd_T29 l0_3 1).f3).length c662_3)) (ds := []) #[false, false, false, false, false, false, false, false, false, false, false, false, false, false, false] (by kernel_rfl) rfl rfl ⟨(blk_cell BK651.out 0).trans rfl, (blk_cell BK651.out 1).trans rfl, (blk_cell BK651.out 2).trans rfl, (blk_cell BK651.out 3).trans rfl, ((HB.out.cell (World.block_lt_of_cell? w _ hw660_0)).trans hw660_0), ((HB.out.cell (World.block_lt_of_cell? w _ hw660_1)).trans hw660_1), ((HB.out.cell (World.block_lt_of_cell? w _ hw660_2)).trans hw660_2), ((HB.out.cell (World.block_lt_of_cell? w _ hw660_3)).trans hw660_3), ((HB.out.cell (World.block_lt_of_cell? w _ hw662_0)).trans hw662_0), ((HB.out.cell (World.block_lt_of_cell? w _ hw662_1)).trans hw662_1), ((HB.out.cell (World.block_lt_of_cell? w _ hw662_2)).trans hw662_2), ((HB.out.cell (World.block_lt_of_cell? w _ hw662_3)).trans hw662_3)⟩ (fun hHeld => ?_); refine with_tabW impl_opticText.tab26 impl_opticText.bits26 (fun HT_ HW_ => ?_)
                                      generalize w70.drew = w72 at BK651 HB HR660_3 HR662_3 hx660_0 hx660_1 hx660_2 hx660_3 hx662_0 hx662_1 hx662_2 hx662_3 hHeld ⊢
                                      refine pure_ (i := 0) (N := some 66) (v := ?_) (a' := ?_) #[true, false, false, false, false, false, false, false, false, false, false, false, false, false, false] rfl rfl (any_of HT_.out (by kernel_rfl)) (fun _ _ _ h => h) (Or.inl ⟨by rfl, ?_⟩) ?_ ?_
                                      rotate_left
                                      · intro w'
                                        go_simp
                                        with_reducible rfl
                                      rotate_left
                                      · simp only [Act.put, List.setIfInBounds_toArray, List.set_cons_zero, List.set_cons_succ, i64_w, i32_w]
                                        rfl
                                      refine pure_ (i := 7) (N := some 73) (v := ?_) (a' := ?_) #[true, false, false, false, false, false, false, true, false, false, false, false, false, false, false] rfl rfl (any_of HT_.out (by kernel_rfl)) (fun _ _ _ h => h) (Or.inl ⟨by rfl, ?_⟩) ?_ ?_
                                      rotate_left
                                      · intro w'
                                        go_simp
                                        with_reducible rfl
                                      rotate_left
                                      · simp only [Act.put, List.setIfInBounds_toArray, List.set_cons_zero, List.set_cons_succ, i64_w, i32_w]
                                        rfl
                                      refine take_ (i := 1) (N := some 67) (v := ?_) (a' := ?_) #[true, true, false, false, false, false, false, true, false, false, false, false, false, false, false] rfl rfl (take_ofW HT_.out HW_.out (by kernel_rfl)) (fun _ _ _ h => h) (Or.inl ⟨by rfl, ?_⟩) hHeld ?_ ?_
                                      rotate_left
                                      · rintro w' ⟨s0, s1, s2, s3, s4, s5, s6, s7, s8, s9, s10, s11⟩
                                        go_simp
                                        with_reducible rfl
                                      rotate_left
                                      · simp only [Act.put, List.setIfInBounds_toArray, List.set_cons_zero, List.set_cons_succ, i64_w, i32_w]
                                        rfl
                                      refine pure_ (i := 2) (N := some 68) (v := ?_) (a' := ?_) #[true, true, true, false, false, false, false, true, false, false, false, false, false, false, false] rfl rfl (any_of HT_.out (by kernel_rfl)) (fun _ _ _ h => h) (Or.inl ⟨by rfl, ?_⟩) ?_ ?_
                                      rotate_left
                                      · intro w'
                                        go_simp
                                        with_reducible rfl
                                      rotate_left
                                      · simp only [Act.put, List.setIfInBounds_toArray, List.set_cons_zero, List.set_cons_succ, i64_w, i32_w]
                                        rfl
                                      refine take_ (i := 3) (N := some 69) (v := ?_) (a' := ?_) #[true, true, true, true, false, false, false, true, false, false, false, false, false, false, false] rfl rfl (take_ofW HT_.out HW_.out (by kernel_rfl)) (fun _ _ _ h => h) (Or.inl ⟨by rfl, ?_⟩) hHeld ?_ ?_
                                      rotate_left
                                      · rintro w' ⟨s0, s1, s2, s3, s4, s5, s6, s7, s8, s9, s10, s11⟩
                                        go_simp
                                        with_reducible rfl
                                      rotate_left
                                      · simp only [Act.put, List.setIfInBounds_toArray, List.set_cons_zero, List.set_cons_succ, i64_w, i32_w]
                                        rfl
                                      refine take_ (i := 8) (N := some 74) (v := ?_) (a' := ?_) #[true, true, true, true, false, false, false, true, true, false, false, false, false, false, false] rfl rfl (take_ofW HT_.out HW_.out (by kernel_rfl)) (fun _ _ _ h => h) (Or.inl ⟨by rfl, ?_⟩) hHeld ?_ ?_
                                      rotate_left
                                      · rintro w' ⟨s0, s1, s2, s3, s4, s5, s6, s7, s8, s9, s10, s11⟩
                                        go_simp
                                        with_reducible rfl
                                      rotate_left
                                      · simp only [Act.put, List.setIfInBounds_toArray, List.set_cons_zero, List.set_cons_succ, i64_w, i32_w]
                                        rfl
                                      refine pure_ (i := 9) (N := some 75) (v := ?_) (a' := ?_) #[true, true, true, true, false, false, false, true, true, true, false, false, false, false, false] rfl rfl (any_of HT_.out (by kernel_rfl)) (fun _ _ _ h => h) (Or.inl ⟨by rfl, ?_⟩) ?_ ?_
                                      rotate_left
                                      · intro w'
                                        go_simp
                                        with_reducible rfl
                                      rotate_left
                                      · simp only [Act.put, List.setIfInBounds_toArray, List.set_cons_zero, List.set_cons_succ, i64_w, i32_w]
                                        rfl
                                      refine take_ (i := 10) (N := some 76) (v := ?_) (a' := ?_) #[true, true, true, true, false, false, false, true, true, true, true, false, false, false, false] rfl rfl (take_ofW HT_.out HW_.out (by kernel_rfl)) (fun _ _ _ h => h) (Or.inl ⟨by rfl, ?_⟩) hHeld ?_ ?_
                                      rotate_left
                                      · rintro w' ⟨s0, s1, s2, s3, s4, s5, s6, s7, s8, s9, s10, s11⟩
                                        go_simp
                                        with_reducible rfl
                                      rotate_left
                                      · simp only [Act.put, List.setIfInBounds_toArray, List.set_cons_zero, List.set_cons_succ, i64_w, i32_w]
                                        rfl
                                      refine one_ (i := 4) (N := some 70) #[true, true, true, true, true, false, false, true, true, true, true, false, false, false, false] rfl rfl (one_of HT_.out (by kernel_rfl)) (by decide) (fun K hK => ?_)
                                      refine goes_ Try.func58 (by kernel_rfl) rfl #[.agg #[.int .i64 ((rd_T29 l0_3 0).f0), .string ((rd_T29 l0_3 0).f1), .int .i64 ((rd_T29 l0_3 0).f2), .slice A660_3 ((rd_T29 l0_3 0).f3).length c660_3]] (by rfl) rfl rfl (by (try simp only [List.map_toArray, List.map_cons, List.map_nil]); first | done | rfl | (simp only [List.length_drop, List.length_take]; rfl)) ?_
                                      with_reducible refine (ih k (by omega) ((rd_T29 l0_3 0).f0) ((rd_T29 l0_3 0).f1) ((rd_T29 l0_3 0).f2) _ _ ((rd_T29 l0_3 0).f3) t661 _ ?side1 ?side2 A63.out).mono ?_
                                      (case side1 => repeat (first | exact (Kd.C_below HR660_3.out HB.out) | (with_reducible refine Kd.C_alloc ?_ _) | (with_reducible refine Kd.C_drewN ?_ _) | (with_reducible refine Kd.C_drew ?_)))
                                      (case side2 => exact HC660_3.out)
                                      rintro e w73 ⟨rfl, hb⟩
                                      refine ⟨_, rfl, ?_⟩
                                      have n0_ := Aside0.mk (blk_below (g := gb651) (o := .cells #[.int .i64 a0_0, .string a0_1, .int .i64 a0_2, .slice (some ad660) l0_3.length c0_3] 29 (0, 0)) (by (with_reducible repeat (first | refine blk_drewN ?_ _ | refine blk_drew ?_ | refine blk_alloc ?_ _)); exact BK651.out) hb)
                                      have n1_ := Aside0.mk (below_step (by repeat (first | (with_reducible first | exact HB.out | apply below_alloc | apply pw_below_drewN | apply below_drew1 | refine below_set ?_ GE651.out) | exact HB.out)) hb)
                                      clear BK651
                                      clear HB
                                      have BK651 := n0_
                                      have HB := n1_
                                      clear n0_ n1_
                                      (try clear hb)
                                      (try clear hb2)
                                      (try clear hk)
                                      (try clear hi)
                                      refine hK.out _ _ ⟨(blk_cell BK651.out 0).trans rfl, (blk_cell BK651.out 1).trans rfl, (blk_cell BK651.out 2).trans rfl, (blk_cell BK651.out 3).trans rfl, ((HB.out.cell (World.block_lt_of_cell? w _ hw660_0)).trans hw660_0), ((HB.out.cell (World.block_lt_of_cell? w _ hw660_1)).trans hw660_1), ((HB.out.cell (World.block_lt_of_cell? w _ hw660_2)).trans hw660_2), ((HB.out.cell (World.block_lt_of_cell? w _ hw660_3)).trans hw660_3), ((HB.out.cell (World.block_lt_of_cell? w _ hw662_0)).trans hw662_0), ((HB.out.cell (World.block_lt_of_cell? w _ hw662_1)).trans hw662_1), ((HB.out.cell (World.block_lt_of_cell? w _ hw662_2)).trans hw662_2), ((HB.out.cell (World.block_lt_of_cell? w _ hw662_3)).trans hw662_3)⟩ (fun hHeld => ?_)
                                      clear hK K
                                      refine norm_ (a' := ?_) ?_ ?_
                                      rotate_left
                                      · show Act.put _ (some 70) _ = _
                                        simp only [Act.put, List.setIfInBounds_toArray, List.set_cons_zero, List.set_cons_succ, i64_w, i32_w]
                                        rfl
                                      refine pure_ (i := 5) (N := some 71) (v := ?_) (a' := ?_) #[true, true, true, true, true, true, false, true, true, true, true, false, false, false, false] rfl rfl (any_of HT_.out (by kernel_rfl)) (fun _ _ _ h => h) (Or.inl ⟨by rfl, ?_⟩) ?_ ?_
                                      rotate_left
                                      · intro w'
                                        go_simp
                                        with_reducible rfl
                                      rotate_left
                                      · simp only [Act.put, List.setIfInBounds_toArray, List.set_cons_zero, List.set_cons_succ, i64_w, i32_w]
                                        rfl
                                      refine pure_ (i := 6) (N := some 72) (v := ?_) (a' := ?_) #[true, true, true, true, true, true, true, true, true, true, true, false, false, false, false] rfl rfl (any_of HT_.out (by kernel_rfl)) (fun _ _ _ h => h) (Or.inl ⟨by rfl, ?_⟩) ?_ ?_
                                      rotate_left
                                      · intro w'
                                        go_simp
                                        with_reducible rfl
                                      rotate_left
                                      · simp only [Act.put, List.setIfInBounds_toArray, List.set_cons_zero, List.set_cons_succ, i64_w, i32_w]
                                        rfl
                                      refine one_ (i := 11) (N := some 77) #[true, true, true, true, true, true, true, true, true, true, true, true, false, false, false] rfl rfl (one_of HT_.out (by kernel_rfl)) (by decide) (fun K hK => ?_)
                                      refine goes_ Try.func58 (by kernel_rfl) rfl #[.agg #[.int .i64 ((rd_T29 l0_3 1).f0), .string ((rd_T29 l0_3 1).f1), .int .i64 ((rd_T29 l0_3 1).f2), .slice A662_3 ((rd_T29 l0_3 1).f3).length c662_3]] (by rfl) rfl rfl (by (try simp only [List.map_toArray, List.map_cons, List.map_nil]); first | done | rfl | (simp only [List.length_drop, List.length_take]; rfl)) ?_
                                      with_reducible refine (ih k (by omega) ((rd_T29 l0_3 1).f0) ((rd_T29 l0_3 1).f1) ((rd_T29 l0_3 1).f2) _ _ ((rd_T29 l0_3 1).f3) t663 _ ?side1 ?side2 A67.out).mono ?_
                                      (case side1 => repeat (first | exact (Kd.C_below HR662_3.out HB.out) | (with_reducible refine Kd.C_alloc ?_ _) | (with_reducible refine Kd.C_drewN ?_ _) | (with_reducible refine Kd.C_drew ?_)))
                                      (case side2 => exact HC662_3.out)
                                      rintro e w74 ⟨rfl, hb⟩
                                      refine ⟨_, rfl, ?_⟩
                                      have n0_ := Aside0.mk (blk_below (g := gb651) (o := .cells #[.int .i64 a0_0, .string a0_1, .int .i64 a0_2, .slice (some ad660) l0_3.length c0_3] 29 (0, 0)) (by (with_reducible repeat (first | refine blk_drewN ?_ _ | refine blk_drew ?_ | refine blk_alloc ?_ _)); exact BK651.out) hb)
                                      have n1_ := Aside0.mk (below_step (by repeat (first | (with_reducible first | exact HB.out | apply below_alloc | apply pw_below_drewN | apply below_drew1 | refine below_set ?_ GE651.out) | exact HB.out)) hb)
                                      clear BK651
                                      clear HB
                                      have BK651 := n0_
                                      have HB := n1_
                                      clear n0_ n1_
                                      (try clear hb)
                                      (try clear hb2)
                                      (try clear hk)
                                      (try clear hi)
                                      refine hK.out _ _ ⟨(blk_cell BK651.out 0).trans rfl, (blk_cell BK651.out 1).trans rfl, (blk_cell BK651.out 2).trans rfl, (blk_cell BK651.out 3).trans rfl, ((HB.out.cell (World.block_lt_of_cell? w _ hw660_0)).trans hw660_0), ((HB.out.cell (World.block_lt_of_cell? w _ hw660_1)).trans hw660_1), ((HB.out.cell (World.block_lt_of_cell? w _ hw660_2)).trans hw660_2), ((HB.out.cell (World.block_lt_of_cell? w _ hw660_3)).trans hw660_3), ((HB.out.cell (World.block_lt_of_cell? w _ hw662_0)).trans hw662_0), ((HB.out.cell (World.block_lt_of_cell? w _ hw662_1)).trans hw662_1), ((HB.out.cell (World.block_lt_of_cell? w _ hw662_2)).trans hw662_2), ((HB.out.cell (World.block_lt_of_cell? w _ hw662_3)).trans hw662_3)⟩ (fun hHeld => ?_)
                                      clear hK K
                                      refine norm_ (a' := ?_) ?_ ?_
                                      rotate_left
                                      · show Act.put _ (some 77) _ = _
                                        simp only [Act.put, List.setIfInBounds_toArray, List.set_cons_zero, List.set_cons_succ, i64_w, i32_w]
                                        rfl
                                      refine pure_ (i := 12) (N := some 78) (v := ?_) (a' := ?_) #[true, true, true, true, true, true, true, true, true, true, true, true, true, false, false] rfl rfl (any_of HT_.out (by kernel_rfl)) (fun _ _ _ h => h) (Or.inl ⟨by rfl, ?_⟩) ?_ ?_
                                      rotate_left
                                      · intro w'
                                        go_simp
                                        with_reducible rfl
                                      rotate_left
                                      · simp only [Act.put, List.setIfInBounds_toArray, List.set_cons_zero, List.set_cons_succ, i64_w, i32_w]
                                        rfl
                                      refine pure_ (i := 13) (N := some 79) (v := ?_) (a' := ?_) #[true, true, true, true, true, true, true, true, true, true, true, true, true, true, false] rfl rfl (any_of HT_.out (by kernel_rfl)) (fun _ _ _ h => h) (Or.inl ⟨by rfl, ?_⟩) ?_ ?_
                                      rotate_left
                                      · intro w'
                                        go_simp
                                        with_reducible rfl
                                      rotate_left
                                      · simp only [Act.put, List.setIfInBounds_toArray, List.set_cons_zero, List.set_cons_succ, i64_w, i32_w]
                                        rfl
                                      refine pure_ (i := 14) (N := some 2) (v := ?_) (a' := ?_) #[true, true, true, true, true, true, true, true, true, true, true, true, true, true, true] rfl rfl (any_of HT_.out (by kernel_rfl)) (fun _ _ _ h => h) (Or.inl ⟨by rfl, ?_⟩) ?_ ?_
                                      rotate_left
                                      · intro w'
                                        go_simp
                                        with_reducible rfl
                                      rotate_left
                                      · simp only [Act.put, List.setIfInBounds_toArray, List.set_cons_zero, List.set_cons_succ, i64_w, i32_w]
                                        rfl
                                      refine done_ (done_of HT_.out (by kernel_rfl)) ?_
                                      try go_wp2
                                      go_ret
                                      exact ⟨by first | rfl | (simp [errW_none, errW_some] <;> rfl) | (simp [*, errW_none, errW_some] <;> rfl), by repeat (first | (with_reducible first | exact HB.out | apply below_alloc | apply pw_below_drewN | apply below_drew1 | refine below_set ?_ GE651.out) | exact HB.out)⟩
                                    · rw [if_neg c69] at H
                                      exact absurd H (by simp)
                                  · rw [if_neg c68] at H
                                    exact absurd H (by simp)
                                · rw [if_neg c66] at H
                                  exact absurd H (by simp)
                              · rw [if_neg c65] at H
                                exact absurd H (by simp)
                            · rw [if_neg c64] at H
                              exact absurd H (by simp)
                          · rw [if_neg c62] at H
                            exact absurd H (by simp)

end Go.Proofs.Ytibcndpadbipmaa.XE
