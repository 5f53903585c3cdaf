-- Written by myprint.py, a program of this session, which runs the kit's printer with changes of its own. Lean checks it.
import Derived.Test.YtingaflikkeefaaXBx0
import Derived.Test.YtingaflikkeefaaXBx1
import Derived.Test.YtingaflikkeefaaSq
namespace Go.Proofs.Ytingaflikkeefaa.XB
open Go.RowKit Go.Proofs.YtingaflikkeefaaW.PrintWords Go.Proofs.YtingaflikkeefaaW.PrintLast Go.Proofs.YtingaflikkeefaaW.PrintMore Go.Proofs.Ytingaflikkeefaa.Sq
attribute [local go_sem] max2_int min2_int max_two min_two max_three min_three max_four min_four   -- for this text's walks alone
set_option linter.unusedVariables false
set_option linter.unusedSimpArgs false

/-! ### spec_EqualType: function 20 -/
mutual
def spec_EqualType.j0 : Nat → Bool → Int → List ByteArray → List (S30) → Int → List ByteArray → List (S30) → Option (Bool)
 | 0, _, _, _, _, _, _, _ => none
 | k + 1, x27, x112000, x112001, x112002, x113000, x113001, x113002 => if x27 = true then (some false) else (spec_EqualType.l0 k 0 x112000 x112001 x112002 x113000 x113001 x113002)
def spec_EqualType.l0 : Nat → Int → Int → List ByteArray → List (S30) → Int → List ByteArray → List (S30) → Option (Bool)
 | 0, _, _, _, _, _, _, _ => none
 | k + 1, x5, x112000, x112001, x112002, x113000, x113001, x113002 => if x5 < (x112002.length : Int) then (if 0 ≤ x5 then (if x5 < (x113002.length : Int) then ((spec_EqualType.f k ((rd_T30 x112002 x5).f0) ((rd_T30 x112002 x5).f1) ((rd_T30 x112002 x5).f2) ((rd_T30 x113002 x5).f0) ((rd_T30 x113002 x5).f1) ((rd_T30 x113002 x5).f2)).bind fun t116 => (if t116 = true then (spec_EqualType.l0 k (wrap64 (x5 + 1)) x112000 x112001 x112002 x113000 x113001 x113002) else (some false))) else (none)) else (none)) else (some true)
def spec_EqualType.f : Nat → Int → List ByteArray → List (S30) → Int → List ByteArray → List (S30) → Option (Bool)
 | 0, _, _, _, _, _, _ => none
 | k + 1, a0_0, l0_1, l0_2, a1_0, l1_1, l1_2 => if a0_0 = a1_0 then ((spec_l3Texts.f k l0_1 l1_1).bind fun t113 => (if t113 = true then (spec_EqualType.j0 k ((l0_2.length : Int) != (l1_2.length : Int)) a0_0 l0_1 l0_2 a1_0 l1_1 l1_2) else (spec_EqualType.j0 k true a0_0 l0_1 l0_2 a1_0 l1_1 l1_2))) else (spec_EqualType.j0 k true a0_0 l0_1 l0_2 a1_0 l1_1 l1_2)
end
theorem spec_EqualType.mono_l : ∀ k, (∀ y0 y1 y2 y3 y4 y5, LeO (spec_EqualType.f k y0 y1 y2 y3 y4 y5) (spec_EqualType.f (k + 1) y0 y1 y2 y3 y4 y5)) ∧ (∀ y0 y1 y2 y3 y4 y5 y6, LeO (spec_EqualType.j0 k y0 y1 y2 y3 y4 y5 y6) (spec_EqualType.j0 (k + 1) y0 y1 y2 y3 y4 y5 y6)) ∧ (∀ y0 y1 y2 y3 y4 y5 y6, LeO (spec_EqualType.l0 k y0 y1 y2 y3 y4 y5 y6) (spec_EqualType.l0 (k + 1) y0 y1 y2 y3 y4 y5 y6))
 | 0 => ⟨fun _ _ _ _ _ _ r h => by simp [spec_EqualType.f] at h, fun _ _ _ _ _ _ _ r h => by simp [spec_EqualType.j0] at h, fun _ _ _ _ _ _ _ r h => by simp [spec_EqualType.l0] at h⟩
 | k + 1 => by
  obtain ⟨ih0, ih1, ih2⟩ := spec_EqualType.mono_l k
  refine ⟨?_, ?_, ?_⟩
  ·intro y0 y1 y2 y3 y4 y5
   unfold spec_EqualType.f
   repeat' first
   | (with_reducible exact ih0 _ _ _ _ _ _)
   | (with_reducible exact ih1 _ _ _ _ _ _ _)
   | (with_reducible exact ih2 _ _ _ _ _ _ _)
   | (with_reducible exact spec_l3Texts.mono _ _ _)
   | (with_reducible exact LeO.refl _)
   | (with_reducible exact LeO.none _)
   | (with_reducible refine LeO.ite ?_ ?_)
   | (with_reducible refine LeO.bind ?_ (fun _ => ?_))
   | exact ih0 _ _ _ _ _ _
   | exact ih1 _ _ _ _ _ _ _
   | exact ih2 _ _ _ _ _ _ _
   | exact spec_l3Texts.mono _ _ _
   | exact LeO.none _
   | refine LeO.ite ?_ ?_
   | refine LeO.bind ?_ (fun _ => ?_)
  ·intro y0 y1 y2 y3 y4 y5 y6
   unfold spec_EqualType.j0
   repeat' first
   | (with_reducible exact ih0 _ _ _ _ _ _)
   | (with_reducible exact ih1 _ _ _ _ _ _ _)
   | (with_reducible exact ih2 _ _ _ _ _ _ _)
   | (with_reducible exact spec_l3Texts.mono _ _ _)
   | (with_reducible exact LeO.refl _)
   | (with_reducible exact LeO.none _)
   | (with_reducible refine LeO.ite ?_ ?_)
   | (with_reducible refine LeO.bind ?_ (fun _ => ?_))
   | exact ih0 _ _ _ _ _ _
   | exact ih1 _ _ _ _ _ _ _
   | exact ih2 _ _ _ _ _ _ _
   | exact spec_l3Texts.mono _ _ _
   | exact LeO.none _
   | refine LeO.ite ?_ ?_
   | refine LeO.bind ?_ (fun _ => ?_)
  ·intro y0 y1 y2 y3 y4 y5 y6
   unfold spec_EqualType.l0
   repeat' first
   | (with_reducible exact ih0 _ _ _ _ _ _)
   | (with_reducible exact ih1 _ _ _ _ _ _ _)
   | (with_reducible exact ih2 _ _ _ _ _ _ _)
   | (with_reducible exact spec_l3Texts.mono _ _ _)
   | (with_reducible exact LeO.refl _)
   | (with_reducible exact LeO.none _)
   | (with_reducible refine LeO.ite ?_ ?_)
   | (with_reducible refine LeO.bind ?_ (fun _ => ?_))
   | exact ih0 _ _ _ _ _ _
   | exact ih1 _ _ _ _ _ _ _
   | exact ih2 _ _ _ _ _ _ _
   | exact spec_l3Texts.mono _ _ _
   | exact LeO.none _
   | refine LeO.ite ?_ ?_
   | refine LeO.bind ?_ (fun _ => ?_)
theorem spec_EqualType.mono : ∀ a0 a1 a2 a3 a4 a5 k, LeO (spec_EqualType.f k a0 a1 a2 a3 a4 a5) (spec_EqualType.f (k + 1) a0 a1 a2 a3 a4 a5) := by
 intro a0 a1 a2 a3 a4 a5 k
 obtain ⟨ih0, ih1, ih2⟩ := spec_EqualType.mono_l k
 exact ih0 a0 a1 a2 a3 a4 a5
def spec_EqualType.T6 : Bool × List (List Nat × List Nat) := (true, [([], []), ([0], [0]), ([], []), ([1, 2], [1, 2]), ([3], [3]), ([], []), ([5], [5]), ([], []), ([6, 7], [6, 7]), ([8], [8]), ([4, 9], [4, 9]), ([10], [10])])
def spec_EqualType.B6 : List Nat := [0, 1, 0, 7, 15, 0, 32, 0, 224, 480, 1023, 2047]
theorem spec_EqualType.tab6 : rtab .any (opsOf Try.f20 6) = spec_EqualType.T6 := by kernel_rfl
theorem spec_EqualType.bits6 : waitsOk spec_EqualType.T6.2 spec_EqualType.B6 = true := by kernel_rfl
set_option maxHeartbeats 8000000 in
set_option maxRecDepth 100000 in
theorem spec_EqualType.calls (k : Nat) : ∀ (a0_0 : Int) (A0_1 : Option Addr) (c0_1 : Nat) (l0_1 : List ByteArray) (A0_2 : Option Addr) (c0_2 : Nat) (l0_2 : List (S30)) (a1_0 : Int) (A1_1 : Option Addr) (c1_1 : Nat) (l1_1 : List ByteArray) (A1_2 : Option Addr) (c1_2 : Nat) (l1_2 : List (S30)) (r : Bool) (w : World) (hr0_1 : Kd.C Kd.string w A0_1 l0_1.length l0_1) (hc0_1 : l0_1.length ≤ c0_1) (hr0_2 : Kd.C k30 w A0_2 l0_2.length l0_2) (hc0_2 : l0_2.length ≤ c0_2) (hr1_1 : Kd.C Kd.string w A1_1 l1_1.length l1_1) (hc1_1 : l1_1.length ≤ c1_1) (hr1_2 : Kd.C k30 w A1_2 l1_2.length l1_2) (hc1_2 : l1_2.length ≤ c1_2) (h : spec_EqualType.f k a0_0 l0_1 l0_2 a1_0 l1_1 l1_2 = some r),
  Calls Try.prog 20 #[.agg #[.int .i64 a0_0, .slice A0_1 l0_1.length c0_1, .slice A0_2 l0_2.length c0_2], .agg #[.int .i64 a1_0, .slice A1_1 l1_1.length c1_1, .slice A1_2 l1_2.length c1_2]] w fun e w' => e = .returned (.bool r) ∧ Below w.heap.size w w' := by
 induction k using Nat.strongRecOn with
 | _ k ih =>
 intro a0_0 A0_1 c0_1 l0_1 A0_2 c0_2 l0_2 a1_0 A1_1 c1_1 l1_1 A1_2 c1_2 l1_2 r w hr0_1 hc0_1 hr0_2 hc0_2 hr1_1 hc1_1 hr1_2 hc1_2 h
 cases k with
 | zero => exact absurd h (by simp [spec_EqualType.f])
 | succ k =>
 simp only [spec_EqualType.f] at h
 have hu30 := Try.underlying30
 have HR0_1 := Aside0.mk hr0_1
 have HC0_1 := Aside0.mk hc0_1
 clear hr0_1 hc0_1
 have HR0_2 := Aside0.mk hr0_2
 have HC0_2 := Aside0.mk hc0_2
 clear hr0_2 hc0_2
 have HR1_1 := Aside0.mk hr1_1
 have HC1_1 := Aside0.mk hc1_1
 clear hr1_1 hc1_1
 have HR1_2 := Aside0.mk hr1_2
 have HC1_2 := Aside0.mk hc1_2
 clear hr1_2 hc1_2
 have HB := Aside0.mk (Below.refl w.heap.size w)
 have H : (if a0_0 = a1_0 then ((spec_l3Texts.f k l0_1 l1_1).bind fun t113 => (if t113 = true then (spec_EqualType.j0 k ((l0_2.length : Int) != (l1_2.length : Int)) a0_0 l0_1 l0_2 a1_0 l1_1 l1_2) else (spec_EqualType.j0 k true a0_0 l0_1 l0_2 a1_0 l1_1 l1_2))) else (spec_EqualType.j0 k true a0_0 l0_1 l0_2 a1_0 l1_1 l1_2)) = some r := h
 clear h
 have HC3 := Aside0.mk H
 clear H
 go_enter Try.func20, Try.ntmps20
 go_upto_region 1 with (first | ((with_reducible refine gate_dst (N := 2) rfl ?_); (try (refine gate_guard (by rfl) ?_; dsimp only)); refine box_event ?hg (N := 2) ?hd (cs := #[.int .i64 a0_0, .slice A0_1 l0_1.length c0_1, .slice A0_2 l0_2.length c0_2]) (t := 30) ?hr ?_; (case hd => rfl); (case hg => rfl); (case hr => first | (go_simp; done) | (go_simp; rfl)); intro gb111 hg w4 hbox hb; have BK111 := Aside0.mk (hbox); have GW111 := Aside0.mk ((by rw [hg]; exact (below_size (B0_ HB.out)) : w.heap.size ≤ gb111)); have GE111 := Aside0.mk ((by rw [hg]; exact (below_size (B0_ HB.out)) : w.heap.size ≤ gb111)); replace HB := Aside0.mk (below_step (B0_ HB.out) hb); clear hb hbox hg) | ((with_reducible refine gate_dst (N := 3) rfl ?_); (try (refine gate_guard (by rfl) ?_; dsimp only)); refine box_event ?hg (N := 3) ?hd (cs := #[.int .i64 a1_0, .slice A1_1 l1_1.length c1_1, .slice A1_2 l1_2.length c1_2]) (t := 30) ?hr ?_; (case hd => rfl); (case hg => rfl); (case hr => first | (go_simp; done) | (go_simp; rfl)); intro gb112 hg w5 hbox hb; have BK112 := Aside0.mk (hbox); have GW112 := Aside0.mk ((by rw [hg]; exact (below_size (B1_ HB.out GE111.out)) : w.heap.size ≤ gb112)); have GE112 := Aside0.mk ((by rw [hg]; exact (below_size (B1_ HB.out GE111.out)) : w.heap.size ≤ gb112)); replace HB := Aside0.mk (below_step (B1_ HB.out GE111.out) hb); have NB111_112 := Aside0.mk ((by rw [hg]; exact Nat.ne_of_lt (blk_lt (K_ BK111.out)) : gb111 ≠ gb112)); have NB112_111 := Aside0.mk ((by rw [hg]; exact Nat.ne_of_gt (blk_lt (K_ BK111.out)) : gb112 ≠ gb111)); replace BK111 := kb_ BK111 hb; clear hb hbox hg))
 (try simp only [Act.put, List.setIfInBounds_toArray, List.set_cons_zero, List.set_cons_succ])
 go_cut [27] (fun v27 wc => ∃ (kq : Nat) (x27_2 : Bool), v27 = .bool x27_2 ∧ Aside0 (spec_EqualType.j0 kq x27_2 a0_0 l0_1 l0_2 a1_0 l1_1 l1_2 = some r) ∧ Aside0 (kq ≤ k) ∧ Aside0 (wc.heap[gb111]? = some (.cells #[.int .i64 a0_0, (.slice A0_1 l0_1.length c0_1), (.slice A0_2 l0_2.length c0_2)] 30 (0, 0))) ∧ Aside0 (wc.heap[gb112]? = some (.cells #[.int .i64 a1_0, (.slice A1_1 l1_1.length c1_1), (.slice A1_2 l1_2.length c1_2)] 30 (0, 0))) ∧ Aside0 (Below w.heap.size w wc))
 case first =>
  have H := HC3.out
  clear HC3
  by_cases c6 : a0_0 = a1_0
  ·rw [if_pos c6] at H
   have c6b0 : (a0_0 == a1_0) = true := beq_iff_eq.mpr c6
   have c6b1 : (a0_0 != a1_0) = false := bne_eq_false_iff_eq.mpr c6
   clear c6
   (first | rw [c6b0] | (simp only [i64_w, i32_w]; rw [c6b0]) | skip)
   replace H := Option.bind_eq_some_iff.mp H
   obtain ⟨t113, A70, H⟩ := H
   replace H : (if t113 = true then (spec_EqualType.j0 k ((l0_2.length : Int) != (l1_2.length : Int)) a0_0 l0_1 l0_2 a1_0 l1_1 l1_2) else (spec_EqualType.j0 k true a0_0 l0_1 l0_2 a1_0 l1_1 l1_2)) = some r := H
   have A7 := Aside0.mk A70
   clear A70
   by_cases c8 : t113 = true
   ·subst c8
    have H1 : (spec_EqualType.j0 k ((l0_2.length : Int) != (l1_2.length : Int)) a0_0 l0_1 l0_2 a1_0 l1_1 l1_2) = some r := by rw [if_pos rfl] at H; exact H
    clear H
    have H := H1
    clear H1
    have H' := Aside0.mk H
    clear H
    have hnb9 := NB111_112.out
    have hnc9 := NB112_111.out
    obtain ⟨hcz10_0, hcz10_1, hcz10_2, hfz10_0, hfz10_1, hfz10_2⟩ := box3_ BK111.out
    obtain ⟨hcz11_0, hcz11_1, hcz11_2, hfz11_0, hfz11_1, hfz11_2⟩ := box3_ BK112.out
    go_wp2_with (first | (go_at_call 47; (with_reducible refine (spec_l3Texts.calls k _ _ l0_1 _ _ l1_1 true _ ?side1 ?side2 ?side3 ?side4 A7.out).mono ?_); (case side1 => exact C_ (Kd.C_below HR0_1.out HB.out)); (case side2 => exact HC0_1.out); (case side3 => exact C_ (Kd.C_below HR1_1.out HB.out)); (case side4 => exact HC1_1.out); rintro e w' ⟨rfl, ⟨nd, rfl⟩⟩))
    go_meet
    case rel => exact ⟨_, (((l0_2.length : Int) != (l1_2.length : Int))), q_, H', ⟨le_⟩, ⟨K_ BK111.out⟩, ⟨K_ BK112.out⟩, ⟨B2_ HB.out GE111.out GE112.out⟩⟩
   ·replace c8 := Bool.eq_false_iff.mpr c8
    subst c8
    have H1 : (spec_EqualType.j0 k true a0_0 l0_1 l0_2 a1_0 l1_1 l1_2) = some r := by rw [if_neg (show ¬ (false = true) by decide)] at H; exact H
    clear H
    have H := H1
    clear H1
    have H' := Aside0.mk H
    clear H
    have hnb12 := NB111_112.out
    have hnc12 := NB112_111.out
    obtain ⟨hcz13_0, hcz13_1, hcz13_2, hfz13_0, hfz13_1, hfz13_2⟩ := box3_ BK111.out
    obtain ⟨hcz14_0, hcz14_1, hcz14_2, hfz14_0, hfz14_1, hfz14_2⟩ := box3_ BK112.out
    go_wp2_with (first | (go_at_call 47; (with_reducible refine (spec_l3Texts.calls k _ _ l0_1 _ _ l1_1 false _ ?side1 ?side2 ?side3 ?side4 A7.out).mono ?_); (case side1 => exact C_ (Kd.C_below HR0_1.out HB.out)); (case side2 => exact HC0_1.out); (case side3 => exact C_ (Kd.C_below HR1_1.out HB.out)); (case side4 => exact HC1_1.out); rintro e w' ⟨rfl, ⟨nd, rfl⟩⟩))
    go_meet
    case rel => exact ⟨_, (true), q_, H', ⟨le_⟩, ⟨K_ BK111.out⟩, ⟨K_ BK112.out⟩, ⟨B2_ HB.out GE111.out GE112.out⟩⟩
  ·rw [if_neg c6] at H
   have c6b0 : (a0_0 == a1_0) = false := beq_eq_false_iff_ne.mpr c6
   have c6b1 : (a0_0 != a1_0) = true := bne_iff_ne.mpr c6
   (first | rw [c6b0] | (simp only [i64_w, i32_w]; rw [c6b0]) | skip)
   have H' := Aside0.mk H
   clear H
   have hnb15 := NB111_112.out
   have hnc15 := NB112_111.out
   obtain ⟨hcz16_0, hcz16_1, hcz16_2, hfz16_0, hfz16_1, hfz16_2⟩ := box3_ BK111.out
   obtain ⟨hcz17_0, hcz17_1, hcz17_2, hfz17_0, hfz17_1, hfz17_2⟩ := box3_ BK112.out
   go_wp2
   go_meet
   case rel => exact ⟨_, (true), q_, H', ⟨le_⟩, ⟨K_ BK111.out⟩, ⟨K_ BK112.out⟩, ⟨B2_ HB.out GE111.out GE112.out⟩⟩
 case rest =>
  clear HC3
  obtain ⟨kq, x27_2, rfl, HA, HJ2, BK111, BK112, HB⟩ := hcut
  cases kq with
  | zero => exact absurd HA.out (by simp [spec_EqualType.j0])
  | succ kj2 =>
   have H := HA.out
   clear HA
   simp only [spec_EqualType.j0] at H
   by_cases c18 : x27_2 = true
   ·subst c18
    have H1 : (some false) = some r := by rw [if_pos rfl] at H; exact H
    clear H
    have H := H1
    clear H1
    obtain rfl := Option.some.inj H
    go_wp2
    go_ret
    exact ⟨er_, B2_ HB.out GE111.out GE112.out⟩
   ·replace c18 := Bool.eq_false_iff.mpr c18
    subst c18
    have H1 : (spec_EqualType.l0 kj2 0 a0_0 l0_1 l0_2 a1_0 l1_1 l1_2) = some r := by rw [if_neg (show ¬ (false = true) by decide)] at H; exact H
    clear H
    have H := H1
    clear H1
    have H' := Aside0.mk H
    clear H
    go_wp2
    go_loopg [5] kj2 (fun kq v5 w' => ∃ (x5_2 : Int), v5 = .int .i64 x5_2 ∧ Aside0 (spec_EqualType.l0 kq x5_2 a0_0 l0_1 l0_2 a1_0 l1_1 l1_2 = some r) ∧ Aside0 (kq ≤ kj2) ∧ Aside0 (w'.heap[gb111]? = some (.cells #[.int .i64 a0_0, (.slice A0_1 l0_1.length c0_1), (.slice A0_2 l0_2.length c0_2)] 30 (0, 0))) ∧ Aside0 (w'.heap[gb112]? = some (.cells #[.int .i64 a1_0, (.slice A1_1 l1_1.length c1_1), (.slice A1_2 l1_2.length c1_2)] 30 (0, 0))) ∧ Aside0 (Below w.heap.size w w'))
    case atStart => exact ⟨(0), q_, H', ⟨Nat.le_refl _⟩, ⟨K_ BK111.out⟩, ⟨K_ BK112.out⟩, ⟨B2_ HB.out GE111.out GE112.out⟩⟩
    case round =>
     clear H'
     try clear c18
     obtain ⟨x5_2, rfl, HA, HK2, BK111, BK112, HB⟩ := hrel
     cases gk with
     | zero => exact absurd HA.out (by simp [spec_EqualType.l0])
     | succ k2 =>
      have H := HA.out
      clear HA
      simp only [spec_EqualType.l0] at H
      by_cases c19 : x5_2 < (l0_2.length : Int)
      ·rw [if_pos c19] at H
       have c19b0 : decide (x5_2 < (l0_2.length : Int)) = true := decide_eq_true c19
       clear c19
       by_cases c20 : 0 ≤ x5_2
       ·rw [if_pos c20] at H
        have c20b0 : decide (0 ≤ x5_2) = true := decide_eq_true c20
        clear c20
        by_cases c21 : x5_2 < (l1_2.length : Int)
        ·rw [if_pos c21] at H
         have c21b0 : decide (x5_2 < (l1_2.length : Int)) = true := decide_eq_true c21
         clear c21
         replace H := Option.bind_eq_some_iff.mp H
         obtain ⟨t116, A220, H⟩ := H
         replace H : (if t116 = true then (spec_EqualType.l0 k2 (wrap64 (x5_2 + 1)) a0_0 l0_1 l0_2 a1_0 l1_1 l1_2) else (some false)) = some r := H
         have A22 := Aside0.mk A220
         clear A220
         by_cases c23 : t116 = true
         ·subst c23
          have H1 : (spec_EqualType.l0 k2 (wrap64 (x5_2 + 1)) a0_0 l0_1 l0_2 a1_0 l1_1 l1_2) = some r := by rw [if_pos rfl] at H; exact H
          clear H
          have H := H1
          clear H1
          have H' := Aside0.mk H
          clear H
          have hnb24 := NB111_112.out
          have hnc24 := NB112_111.out
          obtain ⟨hcz25_0, hcz25_1, hcz25_2, hfz25_0, hfz25_1, hfz25_2⟩ := box3_ BK111.out
          try go_wp2
          replace BK111 := Aside0.mk (blk_drew BK111.out)
          replace BK112 := Aside0.mk (blk_drew BK112.out)
          replace HB := Aside0.mk (below_drew1 HB.out)
          have p114 : 0 ≤ (x5_2 : Int) := de_
          have q114 : x5_2 < (l0_2.length : Int) := de_
          obtain ⟨ad114, A114_1, c114_1, A114_2, c114_2, e114, hx114_0, hx114_1, hx114_2, hl114_1, hi114_1, hl114_2, hi114_2⟩ := at_T30 HR0_2.out x5_2 p114 q114
          have hw114_2 := hx114_2
          have hw114_1 := hx114_1
          have hw114_0 := hx114_0
          cases e114
          replace hx114_0 := (HB.out.cell (World.block_lt_of_cell? w _ hx114_0)).trans hx114_0
          replace hx114_1 := (HB.out.cell (World.block_lt_of_cell? w _ hx114_1)).trans hx114_1
          replace hx114_2 := (HB.out.cell (World.block_lt_of_cell? w _ hx114_2)).trans hx114_2
          have HR114_1 := Aside0.mk hi114_1
          have HC114_1 := Aside0.mk hl114_1
          clear hi114_1 hl114_1
          have HR114_2 := Aside0.mk hi114_2
          have HC114_2 := Aside0.mk hl114_2
          clear hi114_2 hl114_2
          replace p114 := eq_true p114
          replace q114 := eq_true q114
          have p115 : 0 ≤ (x5_2 : Int) := de_
          have q115 : x5_2 < (l1_2.length : Int) := de_
          obtain ⟨ad115, A115_1, c115_1, A115_2, c115_2, e115, hx115_0, hx115_1, hx115_2, hl115_1, hi115_1, hl115_2, hi115_2⟩ := at_T30 HR1_2.out x5_2 p115 q115
          have hw115_2 := hx115_2
          have hw115_1 := hx115_1
          have hw115_0 := hx115_0
          cases e115
          replace hx115_0 := (HB.out.cell (World.block_lt_of_cell? w _ hx115_0)).trans hx115_0
          replace hx115_1 := (HB.out.cell (World.block_lt_of_cell? w _ hx115_1)).trans hx115_1
          replace hx115_2 := (HB.out.cell (World.block_lt_of_cell? w _ hx115_2)).trans hx115_2
          have HR115_1 := Aside0.mk hi115_1
          have HC115_1 := Aside0.mk hl115_1
          clear hi115_1 hl115_1
          have HR115_2 := Aside0.mk hi115_2
          have HC115_2 := Aside0.mk hl115_2
          clear hi115_2 hl115_2
          replace p115 := eq_true p115
          replace q115 := eq_true q115
          refine start_ (n := 12) (S := fun w' => w'.cell? ⟨gb111, 0, none⟩ = some (.int .i64 a0_0) ∧ w'.cell? ⟨gb111, 1, none⟩ = some (.slice A0_1 l0_1.length c0_1) ∧ w'.cell? ⟨gb111, 2, none⟩ = some (.slice (some ad114) l0_2.length c0_2) ∧ w'.cell? ⟨gb112, 0, none⟩ = some (.int .i64 a1_0) ∧ w'.cell? ⟨gb112, 1, none⟩ = some (.slice A1_1 l1_1.length c1_1) ∧ w'.cell? ⟨gb112, 2, none⟩ = some (.slice (some ad115) l1_2.length c1_2) ∧ w'.cell? (ad114.add ((x5_2).toNat * 3)) = some (.int .i64 ((rd_T30 l0_2 x5_2).f0)) ∧ w'.cell? ⟨(ad114.add ((x5_2).toNat * 3)).block, (ad114.add ((x5_2).toNat * 3)).off + 1, none⟩ = some (.slice A114_1 ((rd_T30 l0_2 x5_2).f1).length c114_1) ∧ w'.cell? ⟨(ad114.add ((x5_2).toNat * 3)).block, (ad114.add ((x5_2).toNat * 3)).off + 2, none⟩ = some (.slice A114_2 ((rd_T30 l0_2 x5_2).f2).length c114_2) ∧ w'.cell? (ad115.add ((x5_2).toNat * 3)) = some (.int .i64 ((rd_T30 l1_2 x5_2).f0)) ∧ w'.cell? ⟨(ad115.add ((x5_2).toNat * 3)).block, (ad115.add ((x5_2).toNat * 3)).off + 1, none⟩ = some (.slice A115_1 ((rd_T30 l1_2 x5_2).f1).length c115_1) ∧ w'.cell? ⟨(ad115.add ((x5_2).toNat * 3)).block, (ad115.add ((x5_2).toNat * 3)).off + 2, none⟩ = some (.slice A115_2 ((rd_T30 l1_2 x5_2).f2).length c115_2)) (ds := []) #[false, false, false, false, false, false, false, false, false, false, false, false] (by kernel_rfl) rfl rfl ⟨(blk_cell BK111.out 0).trans rfl, (blk_cell BK111.out 1).trans rfl, (blk_cell BK111.out 2).trans rfl, (blk_cell BK112.out 0).trans rfl, (blk_cell BK112.out 1).trans rfl, (blk_cell BK112.out 2).trans rfl, ((HB.out.cell (World.block_lt_of_cell? w _ hw114_0)).trans hw114_0), ((HB.out.cell (World.block_lt_of_cell? w _ hw114_1)).trans hw114_1), ((HB.out.cell (World.block_lt_of_cell? w _ hw114_2)).trans hw114_2), ((HB.out.cell (World.block_lt_of_cell? w _ hw115_0)).trans hw115_0), ((HB.out.cell (World.block_lt_of_cell? w _ hw115_1)).trans hw115_1), ((HB.out.cell (World.block_lt_of_cell? w _ hw115_2)).trans hw115_2)⟩ (fun hHeld => ?_); refine with_tabW spec_EqualType.tab6 spec_EqualType.bits6 (fun HT_ HW_ => ?_)
          generalize wr.drew = w26 at BK111 BK112 HB HR114_1 HR114_2 HR115_1 HR115_2 hx114_0 hx114_1 hx114_2 hx115_0 hx115_1 hx115_2 hHeld ⊢
          refine pu_ HT_ (i := 0) (N := some 35) (mk_ 12 1) rfl rfl ?_
          refine pu_ HT_ (i := 2) (N := some 37) (mk_ 12 5) rfl rfl ?_
          refine pu_ HT_ (i := 5) (N := some 40) (mk_ 12 37) rfl rfl ?_
          refine pu_ HT_ (i := 7) (N := some 42) (mk_ 12 165) rfl rfl ?_
          refine tk_ HT_ HW_ hHeld (i := 1) (N := some 36) (mk_ 12 167) rfl rfl ?_
          refine pu_ HT_ (i := 3) (N := some 38) (mk_ 12 175) rfl rfl ?_
          refine tk_ HT_ HW_ hHeld (i := 4) (N := some 39) (mk_ 12 191) rfl rfl ?_
          refine tk_ HT_ HW_ hHeld (i := 6) (N := some 41) (mk_ 12 255) rfl rfl ?_
          refine pu_ HT_ (i := 8) (N := some 43) (mk_ 12 511) rfl rfl ?_
          refine tk_ HT_ HW_ hHeld (i := 9) (N := some 44) (mk_ 12 1023) rfl rfl ?_
          refine on_ HT_ (i := 10) (N := some 45) (mk_ 12 2047) rfl rfl (fun K hK => ?_)
          refine goes_ Try.func20 (by kernel_rfl) rfl #[.agg #[.int .i64 ((rd_T30 l0_2 x5_2).f0), .slice A114_1 ((rd_T30 l0_2 x5_2).f1).length c114_1, .slice A114_2 ((rd_T30 l0_2 x5_2).f2).length c114_2], .agg #[.int .i64 ((rd_T30 l1_2 x5_2).f0), .slice A115_1 ((rd_T30 l1_2 x5_2).f1).length c115_1, .slice A115_2 ((rd_T30 l1_2 x5_2).f2).length c115_2]] (by rfl) rfl rfl ma_ ?_
          with_reducible refine (ih k2 (by have := HJ2.out; have := HK2.out; omega) ((rd_T30 l0_2 x5_2).f0) _ _ ((rd_T30 l0_2 x5_2).f1) _ _ ((rd_T30 l0_2 x5_2).f2) ((rd_T30 l1_2 x5_2).f0) _ _ ((rd_T30 l1_2 x5_2).f1) _ _ ((rd_T30 l1_2 x5_2).f2) true _ ?side1 ?side2 ?side3 ?side4 ?side5 ?side6 ?side7 ?side8 A22.out).mono ?_
          (case side1 => exact C_ (Kd.C_below HR114_1.out HB.out))
          (case side2 => exact HC114_1.out)
          (case side3 => exact C_ (Kd.C_below HR114_2.out HB.out))
          (case side4 => exact HC114_2.out)
          (case side5 => exact C_ (Kd.C_below HR115_1.out HB.out))
          (case side6 => exact HC115_1.out)
          (case side7 => exact C_ (Kd.C_below HR115_2.out HB.out))
          (case side8 => exact HC115_2.out)
          rintro e w27 ⟨rfl, hb⟩
          refine ⟨_, rfl, ?_⟩
          replace BK111 := kb_ BK111 hb
          replace BK112 := kb_ BK112 hb
          replace HB := Aside0.mk (below_step (B2_ HB.out GE111.out GE112.out) hb)
          (try clear hb)
          (try clear hb2)
          (try clear hk)
          (try clear hi)
          refine hK.out _ _ ⟨(blk_cell BK111.out 0).trans rfl, (blk_cell BK111.out 1).trans rfl, (blk_cell BK111.out 2).trans rfl, (blk_cell BK112.out 0).trans rfl, (blk_cell BK112.out 1).trans rfl, (blk_cell BK112.out 2).trans rfl, ((HB.out.cell (World.block_lt_of_cell? w _ hw114_0)).trans hw114_0), ((HB.out.cell (World.block_lt_of_cell? w _ hw114_1)).trans hw114_1), ((HB.out.cell (World.block_lt_of_cell? w _ hw114_2)).trans hw114_2), ((HB.out.cell (World.block_lt_of_cell? w _ hw115_0)).trans hw115_0), ((HB.out.cell (World.block_lt_of_cell? w _ hw115_1)).trans hw115_1), ((HB.out.cell (World.block_lt_of_cell? w _ hw115_2)).trans hw115_2)⟩ (fun hHeld => ?_)
          clear hK K
          refine nm_ (some 45) ?_
          refine pu_ HT_ (i := 11) (N := some 46) (mk_ 12 4095) rfl rfl ?_
          refine done_ (done_of HT_.out (by kernel_rfl)) ?_
          try go_wp2
          go_roundg k2
          case measure => have := HJ2.out; have := HK2.out; omega
          case rel => exact ⟨(wrap64 (x5_2 + 1)), q_, H', ⟨by have := HJ2.out; have := HK2.out; omega⟩, ⟨K_ BK111.out⟩, ⟨K_ BK112.out⟩, ⟨B2_ HB.out GE111.out GE112.out⟩⟩
         ·replace c23 := Bool.eq_false_iff.mpr c23
          subst c23
          have H1 : (some false) = some r := by rw [if_neg (show ¬ (false = true) by decide)] at H; exact H
          clear H
          have H := H1
          clear H1
          obtain rfl := Option.some.inj H
          have hnb28 := NB111_112.out
          have hnc28 := NB112_111.out
          obtain ⟨hcz29_0, hcz29_1, hcz29_2, hfz29_0, hfz29_1, hfz29_2⟩ := box3_ BK111.out
          try go_wp2
          replace BK111 := Aside0.mk (blk_drew BK111.out)
          replace BK112 := Aside0.mk (blk_drew BK112.out)
          replace HB := Aside0.mk (below_drew1 HB.out)
          have p114 : 0 ≤ (x5_2 : Int) := de_
          have q114 : x5_2 < (l0_2.length : Int) := de_
          obtain ⟨ad114, A114_1, c114_1, A114_2, c114_2, e114, hx114_0, hx114_1, hx114_2, hl114_1, hi114_1, hl114_2, hi114_2⟩ := at_T30 HR0_2.out x5_2 p114 q114
          have hw114_2 := hx114_2
          have hw114_1 := hx114_1
          have hw114_0 := hx114_0
          cases e114
          replace hx114_0 := (HB.out.cell (World.block_lt_of_cell? w _ hx114_0)).trans hx114_0
          replace hx114_1 := (HB.out.cell (World.block_lt_of_cell? w _ hx114_1)).trans hx114_1
          replace hx114_2 := (HB.out.cell (World.block_lt_of_cell? w _ hx114_2)).trans hx114_2
          have HR114_1 := Aside0.mk hi114_1
          have HC114_1 := Aside0.mk hl114_1
          clear hi114_1 hl114_1
          have HR114_2 := Aside0.mk hi114_2
          have HC114_2 := Aside0.mk hl114_2
          clear hi114_2 hl114_2
          replace p114 := eq_true p114
          replace q114 := eq_true q114
          have p115 : 0 ≤ (x5_2 : Int) := de_
          have q115 : x5_2 < (l1_2.length : Int) := de_
          obtain ⟨ad115, A115_1, c115_1, A115_2, c115_2, e115, hx115_0, hx115_1, hx115_2, hl115_1, hi115_1, hl115_2, hi115_2⟩ := at_T30 HR1_2.out x5_2 p115 q115
          have hw115_2 := hx115_2
          have hw115_1 := hx115_1
          have hw115_0 := hx115_0
          cases e115
          replace hx115_0 := (HB.out.cell (World.block_lt_of_cell? w _ hx115_0)).trans hx115_0
          replace hx115_1 := (HB.out.cell (World.block_lt_of_cell? w _ hx115_1)).trans hx115_1
          replace hx115_2 := (HB.out.cell (World.block_lt_of_cell? w _ hx115_2)).trans hx115_2
          have HR115_1 := Aside0.mk hi115_1
          have HC115_1 := Aside0.mk hl115_1
          clear hi115_1 hl115_1
          have HR115_2 := Aside0.mk hi115_2
          have HC115_2 := Aside0.mk hl115_2
          clear hi115_2 hl115_2
          replace p115 := eq_true p115
          replace q115 := eq_true q115
          refine start_ (n := 12) (S := fun w' => w'.cell? ⟨gb111, 0, none⟩ = some (.int .i64 a0_0) ∧ w'.cell? ⟨gb111, 1, none⟩ = some (.slice A0_1 l0_1.length c0_1) ∧ w'.cell? ⟨gb111, 2, none⟩ = some (.slice (some ad114) l0_2.length c0_2) ∧ w'.cell? ⟨gb112, 0, none⟩ = some (.int .i64 a1_0) ∧ w'.cell? ⟨gb112, 1, none⟩ = some (.slice A1_1 l1_1.length c1_1) ∧ w'.cell? ⟨gb112, 2, none⟩ = some (.slice (some ad115) l1_2.length c1_2) ∧ w'.cell? (ad114.add ((x5_2).toNat * 3)) = some (.int .i64 ((rd_T30 l0_2 x5_2).f0)) ∧ w'.cell? ⟨(ad114.add ((x5_2).toNat * 3)).block, (ad114.add ((x5_2).toNat * 3)).off + 1, none⟩ = some (.slice A114_1 ((rd_T30 l0_2 x5_2).f1).length c114_1) ∧ w'.cell? ⟨(ad114.add ((x5_2).toNat * 3)).block, (ad114.add ((x5_2).toNat * 3)).off + 2, none⟩ = some (.slice A114_2 ((rd_T30 l0_2 x5_2).f2).length c114_2) ∧ w'.cell? (ad115.add ((x5_2).toNat * 3)) = some (.int .i64 ((rd_T30 l1_2 x5_2).f0)) ∧ w'.cell? ⟨(ad115.add ((x5_2).toNat * 3)).block, (ad115.add ((x5_2).toNat * 3)).off + 1, none⟩ = some (.slice A115_1 ((rd_T30 l1_2 x5_2).f1).length c115_1) ∧ w'.cell? ⟨(ad115.add ((x5_2).toNat * 3)).block, (ad115.add ((x5_2).toNat * 3)).off + 2, none⟩ = some (.slice A115_2 ((rd_T30 l1_2 x5_2).f2).length c115_2)) (ds := []) #[false, false, false, false, false, false, false, false, false, false, false, false] (by kernel_rfl) rfl rfl ⟨(blk_cell BK111.out 0).trans rfl, (blk_cell BK111.out 1).trans rfl, (blk_cell BK111.out 2).trans rfl, (blk_cell BK112.out 0).trans rfl, (blk_cell BK112.out 1).trans rfl, (blk_cell BK112.out 2).trans rfl, ((HB.out.cell (World.block_lt_of_cell? w _ hw114_0)).trans hw114_0), ((HB.out.cell (World.block_lt_of_cell? w _ hw114_1)).trans hw114_1), ((HB.out.cell (World.block_lt_of_cell? w _ hw114_2)).trans hw114_2), ((HB.out.cell (World.block_lt_of_cell? w _ hw115_0)).trans hw115_0), ((HB.out.cell (World.block_lt_of_cell? w _ hw115_1)).trans hw115_1), ((HB.out.cell (World.block_lt_of_cell? w _ hw115_2)).trans hw115_2)⟩ (fun hHeld => ?_); refine with_tabW spec_EqualType.tab6 spec_EqualType.bits6 (fun HT_ HW_ => ?_)
          generalize wr.drew = w30 at BK111 BK112 HB HR114_1 HR114_2 HR115_1 HR115_2 hx114_0 hx114_1 hx114_2 hx115_0 hx115_1 hx115_2 hHeld ⊢
          refine pu_ HT_ (i := 0) (N := some 35) (mk_ 12 1) rfl rfl ?_
          refine pu_ HT_ (i := 2) (N := some 37) (mk_ 12 5) rfl rfl ?_
          refine pu_ HT_ (i := 5) (N := some 40) (mk_ 12 37) rfl rfl ?_
          refine pu_ HT_ (i := 7) (N := some 42) (mk_ 12 165) rfl rfl ?_
          refine tk_ HT_ HW_ hHeld (i := 1) (N := some 36) (mk_ 12 167) rfl rfl ?_
          refine pu_ HT_ (i := 3) (N := some 38) (mk_ 12 175) rfl rfl ?_
          refine tk_ HT_ HW_ hHeld (i := 4) (N := some 39) (mk_ 12 191) rfl rfl ?_
          refine tk_ HT_ HW_ hHeld (i := 6) (N := some 41) (mk_ 12 255) rfl rfl ?_
          refine pu_ HT_ (i := 8) (N := some 43) (mk_ 12 511) rfl rfl ?_
          refine tk_ HT_ HW_ hHeld (i := 9) (N := some 44) (mk_ 12 1023) rfl rfl ?_
          refine on_ HT_ (i := 10) (N := some 45) (mk_ 12 2047) rfl rfl (fun K hK => ?_)
          refine goes_ Try.func20 (by kernel_rfl) rfl #[.agg #[.int .i64 ((rd_T30 l0_2 x5_2).f0), .slice A114_1 ((rd_T30 l0_2 x5_2).f1).length c114_1, .slice A114_2 ((rd_T30 l0_2 x5_2).f2).length c114_2], .agg #[.int .i64 ((rd_T30 l1_2 x5_2).f0), .slice A115_1 ((rd_T30 l1_2 x5_2).f1).length c115_1, .slice A115_2 ((rd_T30 l1_2 x5_2).f2).length c115_2]] (by rfl) rfl rfl ma_ ?_
          with_reducible refine (ih k2 (by have := HJ2.out; have := HK2.out; omega) ((rd_T30 l0_2 x5_2).f0) _ _ ((rd_T30 l0_2 x5_2).f1) _ _ ((rd_T30 l0_2 x5_2).f2) ((rd_T30 l1_2 x5_2).f0) _ _ ((rd_T30 l1_2 x5_2).f1) _ _ ((rd_T30 l1_2 x5_2).f2) false _ ?side1 ?side2 ?side3 ?side4 ?side5 ?side6 ?side7 ?side8 A22.out).mono ?_
          (case side1 => exact C_ (Kd.C_below HR114_1.out HB.out))
          (case side2 => exact HC114_1.out)
          (case side3 => exact C_ (Kd.C_below HR114_2.out HB.out))
          (case side4 => exact HC114_2.out)
          (case side5 => exact C_ (Kd.C_below HR115_1.out HB.out))
          (case side6 => exact HC115_1.out)
          (case side7 => exact C_ (Kd.C_below HR115_2.out HB.out))
          (case side8 => exact HC115_2.out)
          rintro e w31 ⟨rfl, hb⟩
          refine ⟨_, rfl, ?_⟩
          replace BK111 := kb_ BK111 hb
          replace BK112 := kb_ BK112 hb
          replace HB := Aside0.mk (below_step (B2_ HB.out GE111.out GE112.out) hb)
          (try clear hb)
          (try clear hb2)
          (try clear hk)
          (try clear hi)
          refine hK.out _ _ ⟨(blk_cell BK111.out 0).trans rfl, (blk_cell BK111.out 1).trans rfl, (blk_cell BK111.out 2).trans rfl, (blk_cell BK112.out 0).trans rfl, (blk_cell BK112.out 1).trans rfl, (blk_cell BK112.out 2).trans rfl, ((HB.out.cell (World.block_lt_of_cell? w _ hw114_0)).trans hw114_0), ((HB.out.cell (World.block_lt_of_cell? w _ hw114_1)).trans hw114_1), ((HB.out.cell (World.block_lt_of_cell? w _ hw114_2)).trans hw114_2), ((HB.out.cell (World.block_lt_of_cell? w _ hw115_0)).trans hw115_0), ((HB.out.cell (World.block_lt_of_cell? w _ hw115_1)).trans hw115_1), ((HB.out.cell (World.block_lt_of_cell? w _ hw115_2)).trans hw115_2)⟩ (fun hHeld => ?_)
          clear hK K
          refine nm_ (some 45) ?_
          refine pu_ HT_ (i := 11) (N := some 46) (mk_ 12 4095) rfl rfl ?_
          refine done_ (done_of HT_.out (by kernel_rfl)) ?_
          try go_wp2
          go_ret
          exact ⟨er_, B2_ HB.out GE111.out GE112.out⟩
        ·rw [if_neg c21] at H
         exact absurd H (by simp)
       ·rw [if_neg c20] at H
        exact absurd H (by simp)
      ·rw [if_neg c19] at H
       have c19b0 : decide (x5_2 < (l0_2.length : Int)) = false := decide_eq_false c19
       clear c19
       obtain rfl := Option.some.inj H
       have hnb32 := NB111_112.out
       have hnc32 := NB112_111.out
       obtain ⟨hcz33_0, hcz33_1, hcz33_2, hfz33_0, hfz33_1, hfz33_2⟩ := box3_ BK111.out
       go_wp2
       go_ret
       exact ⟨er_, B2_ HB.out GE111.out GE112.out⟩

end Go.Proofs.Ytingaflikkeefaa.XB
