-- Written by myprint.py, a program of this session, which runs the kit's printer with changes of its own. Lean checks it.
import Derived.Test.YtingaflikkeefaaXBx0
import Derived.Test.YtingaflikkeefaaXBx3
import Derived.Test.YtingaflikkeefaaSq
namespace Go.Proofs.Ytingaflikkeefaa.XB
open Go.RowKit Go.Proofs.YtingaflikkeefaaW.PrintWords Go.Proofs.YtingaflikkeefaaW.PrintLast Go.Proofs.YtingaflikkeefaaW.PrintMore Go.Proofs.Ytingaflikkeefaa.Sq
attribute [local go_sem] max2_int min2_int max_two min_two max_three min_three max_four min_four   -- for this text's walks alone
set_option linter.unusedVariables false
set_option linter.unusedSimpArgs false

/-! ### impl_EqualType: function 21 -/
mutual
def impl_EqualType.j0 : Nat → Bool → Int → List ByteArray → List (S30) → Int → List ByteArray → List (S30) → Option (Bool)
 | 0, _, _, _, _, _, _, _ => none
 | k + 1, x27, x120000, x120001, x120002, x121000, x121001, x121002 => if x27 = true then (some false) else (impl_EqualType.l0 k (x120002.length : Int) 0 x120000 x120001 x120002 x121000 x121001 x121002)
def impl_EqualType.l0 : Nat → Int → Int → Int → List ByteArray → List (S30) → Int → List ByteArray → List (S30) → Option (Bool)
 | 0, _, _, _, _, _, _, _, _ => none
 | k + 1, x30, x31, x120000, x120001, x120002, x121000, x121001, x121002 => if x31 < x30 then (if 0 ≤ x31 then (if x31 < (x120002.length : Int) then (if x31 < (x121002.length : Int) then ((impl_EqualType.f k ((rd_T30 x120002 x31).f0) ((rd_T30 x120002 x31).f1) ((rd_T30 x120002 x31).f2) ((rd_T30 x121002 x31).f0) ((rd_T30 x121002 x31).f1) ((rd_T30 x121002 x31).f2)).bind fun t124 => (if t124 = true then (impl_EqualType.l0 k x30 (wrap64 (x31 + 1)) x120000 x120001 x120002 x121000 x121001 x121002) else (some false))) else (none)) else (none)) else (none)) else (some true)
def impl_EqualType.f : Nat → Int → List ByteArray → List (S30) → Int → List ByteArray → List (S30) → Option (Bool)
 | 0, _, _, _, _, _, _ => none
 | k + 1, a0_0, l0_1, l0_2, a1_0, l1_1, l1_2 => if a0_0 = a1_0 then ((impl_sameStrings.f k l0_1 l1_1).bind fun t121 => (if t121 = true then (impl_EqualType.j0 k ((l0_2.length : Int) != (l1_2.length : Int)) a0_0 l0_1 l0_2 a1_0 l1_1 l1_2) else (impl_EqualType.j0 k true a0_0 l0_1 l0_2 a1_0 l1_1 l1_2))) else (impl_EqualType.j0 k true a0_0 l0_1 l0_2 a1_0 l1_1 l1_2)
end
theorem impl_EqualType.mono_l : ∀ k, (∀ y0 y1 y2 y3 y4 y5, LeO (impl_EqualType.f k y0 y1 y2 y3 y4 y5) (impl_EqualType.f (k + 1) y0 y1 y2 y3 y4 y5)) ∧ (∀ y0 y1 y2 y3 y4 y5 y6, LeO (impl_EqualType.j0 k y0 y1 y2 y3 y4 y5 y6) (impl_EqualType.j0 (k + 1) y0 y1 y2 y3 y4 y5 y6)) ∧ (∀ y0 y1 y2 y3 y4 y5 y6 y7, LeO (impl_EqualType.l0 k y0 y1 y2 y3 y4 y5 y6 y7) (impl_EqualType.l0 (k + 1) y0 y1 y2 y3 y4 y5 y6 y7))
 | 0 => ⟨fun _ _ _ _ _ _ r h => by simp [impl_EqualType.f] at h, fun _ _ _ _ _ _ _ r h => by simp [impl_EqualType.j0] at h, fun _ _ _ _ _ _ _ _ r h => by simp [impl_EqualType.l0] at h⟩
 | k + 1 => by
  obtain ⟨ih0, ih1, ih2⟩ := impl_EqualType.mono_l k
  refine ⟨?_, ?_, ?_⟩
  ·intro y0 y1 y2 y3 y4 y5
   unfold impl_EqualType.f
   repeat' first
   | (with_reducible exact ih0 _ _ _ _ _ _)
   | (with_reducible exact ih1 _ _ _ _ _ _ _)
   | (with_reducible exact ih2 _ _ _ _ _ _ _ _)
   | (with_reducible exact impl_sameStrings.mono _ _ _)
   | (with_reducible exact LeO.refl _)
   | (with_reducible exact LeO.none _)
   | (with_reducible refine LeO.ite ?_ ?_)
   | (with_reducible refine LeO.bind ?_ (fun _ => ?_))
   | exact ih0 _ _ _ _ _ _
   | exact ih1 _ _ _ _ _ _ _
   | exact ih2 _ _ _ _ _ _ _ _
   | exact impl_sameStrings.mono _ _ _
   | exact LeO.none _
   | refine LeO.ite ?_ ?_
   | refine LeO.bind ?_ (fun _ => ?_)
  ·intro y0 y1 y2 y3 y4 y5 y6
   unfold impl_EqualType.j0
   repeat' first
   | (with_reducible exact ih0 _ _ _ _ _ _)
   | (with_reducible exact ih1 _ _ _ _ _ _ _)
   | (with_reducible exact ih2 _ _ _ _ _ _ _ _)
   | (with_reducible exact impl_sameStrings.mono _ _ _)
   | (with_reducible exact LeO.refl _)
   | (with_reducible exact LeO.none _)
   | (with_reducible refine LeO.ite ?_ ?_)
   | (with_reducible refine LeO.bind ?_ (fun _ => ?_))
   | exact ih0 _ _ _ _ _ _
   | exact ih1 _ _ _ _ _ _ _
   | exact ih2 _ _ _ _ _ _ _ _
   | exact impl_sameStrings.mono _ _ _
   | exact LeO.none _
   | refine LeO.ite ?_ ?_
   | refine LeO.bind ?_ (fun _ => ?_)
  ·intro y0 y1 y2 y3 y4 y5 y6 y7
   unfold impl_EqualType.l0
   repeat' first
   | (with_reducible exact ih0 _ _ _ _ _ _)
   | (with_reducible exact ih1 _ _ _ _ _ _ _)
   | (with_reducible exact ih2 _ _ _ _ _ _ _ _)
   | (with_reducible exact impl_sameStrings.mono _ _ _)
   | (with_reducible exact LeO.refl _)
   | (with_reducible exact LeO.none _)
   | (with_reducible refine LeO.ite ?_ ?_)
   | (with_reducible refine LeO.bind ?_ (fun _ => ?_))
   | exact ih0 _ _ _ _ _ _
   | exact ih1 _ _ _ _ _ _ _
   | exact ih2 _ _ _ _ _ _ _ _
   | exact impl_sameStrings.mono _ _ _
   | exact LeO.none _
   | refine LeO.ite ?_ ?_
   | refine LeO.bind ?_ (fun _ => ?_)
theorem impl_EqualType.mono : ∀ a0 a1 a2 a3 a4 a5 k, LeO (impl_EqualType.f k a0 a1 a2 a3 a4 a5) (impl_EqualType.f (k + 1) a0 a1 a2 a3 a4 a5) := by
 intro a0 a1 a2 a3 a4 a5 k
 obtain ⟨ih0, ih1, ih2⟩ := impl_EqualType.mono_l k
 exact ih0 a0 a1 a2 a3 a4 a5
def impl_EqualType.T6 : Bool × List (List Nat × List Nat) := (true, [([], []), ([0], [0]), ([], []), ([1, 2], [1, 2]), ([3], [3]), ([], []), ([5], [5]), ([], []), ([6, 7], [6, 7]), ([8], [8]), ([4, 9], [4, 9]), ([10], [10])])
def impl_EqualType.B6 : List Nat := [0, 1, 0, 7, 15, 0, 32, 0, 224, 480, 1023, 2047]
theorem impl_EqualType.tab6 : rtab .any (opsOf Try.f21 6) = impl_EqualType.T6 := by kernel_rfl
theorem impl_EqualType.bits6 : waitsOk impl_EqualType.T6.2 impl_EqualType.B6 = true := by kernel_rfl
set_option maxHeartbeats 8000000 in
set_option maxRecDepth 100000 in
theorem impl_EqualType.calls (k : Nat) : ∀ (a0_0 : Int) (A0_1 : Option Addr) (c0_1 : Nat) (l0_1 : List ByteArray) (A0_2 : Option Addr) (c0_2 : Nat) (l0_2 : List (S30)) (a1_0 : Int) (A1_1 : Option Addr) (c1_1 : Nat) (l1_1 : List ByteArray) (A1_2 : Option Addr) (c1_2 : Nat) (l1_2 : List (S30)) (r : Bool) (w : World) (hr0_1 : Kd.C Kd.string w A0_1 l0_1.length l0_1) (hc0_1 : l0_1.length ≤ c0_1) (hr0_2 : Kd.C k30 w A0_2 l0_2.length l0_2) (hc0_2 : l0_2.length ≤ c0_2) (hr1_1 : Kd.C Kd.string w A1_1 l1_1.length l1_1) (hc1_1 : l1_1.length ≤ c1_1) (hr1_2 : Kd.C k30 w A1_2 l1_2.length l1_2) (hc1_2 : l1_2.length ≤ c1_2) (h : impl_EqualType.f k a0_0 l0_1 l0_2 a1_0 l1_1 l1_2 = some r),
  Calls Try.prog 21 #[.agg #[.int .i64 a0_0, .slice A0_1 l0_1.length c0_1, .slice A0_2 l0_2.length c0_2], .agg #[.int .i64 a1_0, .slice A1_1 l1_1.length c1_1, .slice A1_2 l1_2.length c1_2]] w fun e w' => e = .returned (.bool r) ∧ Below w.heap.size w w' := by
 induction k using Nat.strongRecOn with
 | _ k ih =>
 intro a0_0 A0_1 c0_1 l0_1 A0_2 c0_2 l0_2 a1_0 A1_1 c1_1 l1_1 A1_2 c1_2 l1_2 r w hr0_1 hc0_1 hr0_2 hc0_2 hr1_1 hc1_1 hr1_2 hc1_2 h
 cases k with
 | zero => exact absurd h (by simp [impl_EqualType.f])
 | succ k =>
 simp only [impl_EqualType.f] at h
 have hu30 := Try.underlying30
 have HR0_1 := Aside0.mk hr0_1
 have HC0_1 := Aside0.mk hc0_1
 clear hr0_1 hc0_1
 have HR0_2 := Aside0.mk hr0_2
 have HC0_2 := Aside0.mk hc0_2
 clear hr0_2 hc0_2
 have HR1_1 := Aside0.mk hr1_1
 have HC1_1 := Aside0.mk hc1_1
 clear hr1_1 hc1_1
 have HR1_2 := Aside0.mk hr1_2
 have HC1_2 := Aside0.mk hc1_2
 clear hr1_2 hc1_2
 have HB := Aside0.mk (Below.refl w.heap.size w)
 have H : (if a0_0 = a1_0 then ((impl_sameStrings.f k l0_1 l1_1).bind fun t121 => (if t121 = true then (impl_EqualType.j0 k ((l0_2.length : Int) != (l1_2.length : Int)) a0_0 l0_1 l0_2 a1_0 l1_1 l1_2) else (impl_EqualType.j0 k true a0_0 l0_1 l0_2 a1_0 l1_1 l1_2))) else (impl_EqualType.j0 k true a0_0 l0_1 l0_2 a1_0 l1_1 l1_2)) = some r := h
 clear h
 have HC3 := Aside0.mk H
 clear H
 go_enter Try.func21, Try.ntmps21
 go_upto_region 1 with (first | ((with_reducible refine gate_dst (N := 2) rfl ?_); (try (refine gate_guard (by rfl) ?_; dsimp only)); refine box_event ?hg (N := 2) ?hd (cs := #[.int .i64 a0_0, .slice A0_1 l0_1.length c0_1, .slice A0_2 l0_2.length c0_2]) (t := 30) ?hr ?_; (case hd => rfl); (case hg => rfl); (case hr => first | (go_simp; done) | (go_simp; rfl)); intro gb119 hg w4 hbox hb; have BK119 := Aside0.mk (hbox); have GW119 := Aside0.mk ((by rw [hg]; exact (below_size (B0_ HB.out)) : w.heap.size ≤ gb119)); have GE119 := Aside0.mk ((by rw [hg]; exact (below_size (B0_ HB.out)) : w.heap.size ≤ gb119)); replace HB := Aside0.mk (below_step (B0_ HB.out) hb); clear hb hbox hg) | ((with_reducible refine gate_dst (N := 3) rfl ?_); (try (refine gate_guard (by rfl) ?_; dsimp only)); refine box_event ?hg (N := 3) ?hd (cs := #[.int .i64 a1_0, .slice A1_1 l1_1.length c1_1, .slice A1_2 l1_2.length c1_2]) (t := 30) ?hr ?_; (case hd => rfl); (case hg => rfl); (case hr => first | (go_simp; done) | (go_simp; rfl)); intro gb120 hg w5 hbox hb; have BK120 := Aside0.mk (hbox); have GW120 := Aside0.mk ((by rw [hg]; exact (below_size (B1_ HB.out GE119.out)) : w.heap.size ≤ gb120)); have GE120 := Aside0.mk ((by rw [hg]; exact (below_size (B1_ HB.out GE119.out)) : w.heap.size ≤ gb120)); replace HB := Aside0.mk (below_step (B1_ HB.out GE119.out) hb); have NB119_120 := Aside0.mk ((by rw [hg]; exact Nat.ne_of_lt (blk_lt (K_ BK119.out)) : gb119 ≠ gb120)); have NB120_119 := Aside0.mk ((by rw [hg]; exact Nat.ne_of_gt (blk_lt (K_ BK119.out)) : gb120 ≠ gb119)); replace BK119 := kb_ BK119 hb; clear hb hbox hg))
 (try simp only [Act.put, List.setIfInBounds_toArray, List.set_cons_zero, List.set_cons_succ])
 go_cut [27] (fun v27 wc => ∃ (kq : Nat) (x27_2 : Bool), v27 = .bool x27_2 ∧ Aside0 (impl_EqualType.j0 kq x27_2 a0_0 l0_1 l0_2 a1_0 l1_1 l1_2 = some r) ∧ Aside0 (kq ≤ k) ∧ Aside0 (wc.heap[gb119]? = some (.cells #[.int .i64 a0_0, (.slice A0_1 l0_1.length c0_1), (.slice A0_2 l0_2.length c0_2)] 30 (0, 0))) ∧ Aside0 (wc.heap[gb120]? = some (.cells #[.int .i64 a1_0, (.slice A1_1 l1_1.length c1_1), (.slice A1_2 l1_2.length c1_2)] 30 (0, 0))) ∧ Aside0 (Below w.heap.size w wc))
 case first =>
  have H := HC3.out
  clear HC3
  by_cases c6 : a0_0 = a1_0
  ·rw [if_pos c6] at H
   have c6b0 : (a0_0 == a1_0) = true := beq_iff_eq.mpr c6
   have c6b1 : (a0_0 != a1_0) = false := bne_eq_false_iff_eq.mpr c6
   clear c6
   (first | rw [c6b0] | (simp only [i64_w, i32_w]; rw [c6b0]) | skip)
   replace H := Option.bind_eq_some_iff.mp H
   obtain ⟨t121, A70, H⟩ := H
   replace H : (if t121 = true then (impl_EqualType.j0 k ((l0_2.length : Int) != (l1_2.length : Int)) a0_0 l0_1 l0_2 a1_0 l1_1 l1_2) else (impl_EqualType.j0 k true a0_0 l0_1 l0_2 a1_0 l1_1 l1_2)) = some r := H
   have A7 := Aside0.mk A70
   clear A70
   by_cases c8 : t121 = true
   ·subst c8
    have H1 : (impl_EqualType.j0 k ((l0_2.length : Int) != (l1_2.length : Int)) a0_0 l0_1 l0_2 a1_0 l1_1 l1_2) = some r := by rw [if_pos rfl] at H; exact H
    clear H
    have H := H1
    clear H1
    have H' := Aside0.mk H
    clear H
    have hnb9 := NB119_120.out
    have hnc9 := NB120_119.out
    obtain ⟨hcz10_0, hcz10_1, hcz10_2, hfz10_0, hfz10_1, hfz10_2⟩ := box3_ BK119.out
    obtain ⟨hcz11_0, hcz11_1, hcz11_2, hfz11_0, hfz11_1, hfz11_2⟩ := box3_ BK120.out
    go_wp2_with (first | (go_at_call 48; (with_reducible refine (impl_sameStrings.calls k _ _ l0_1 _ _ l1_1 true _ ?side1 ?side2 ?side3 ?side4 A7.out).mono ?_); (case side1 => exact C_ (Kd.C_below HR0_1.out HB.out)); (case side2 => exact HC0_1.out); (case side3 => exact C_ (Kd.C_below HR1_1.out HB.out)); (case side4 => exact HC1_1.out); rintro e w' ⟨rfl, ⟨nd, rfl⟩⟩))
    go_meet
    case rel => exact ⟨_, (((l0_2.length : Int) != (l1_2.length : Int))), q_, H', ⟨le_⟩, ⟨K_ BK119.out⟩, ⟨K_ BK120.out⟩, ⟨B2_ HB.out GE119.out GE120.out⟩⟩
   ·replace c8 := Bool.eq_false_iff.mpr c8
    subst c8
    have H1 : (impl_EqualType.j0 k true a0_0 l0_1 l0_2 a1_0 l1_1 l1_2) = some r := by rw [if_neg (show ¬ (false = true) by decide)] at H; exact H
    clear H
    have H := H1
    clear H1
    have H' := Aside0.mk H
    clear H
    have hnb12 := NB119_120.out
    have hnc12 := NB120_119.out
    obtain ⟨hcz13_0, hcz13_1, hcz13_2, hfz13_0, hfz13_1, hfz13_2⟩ := box3_ BK119.out
    obtain ⟨hcz14_0, hcz14_1, hcz14_2, hfz14_0, hfz14_1, hfz14_2⟩ := box3_ BK120.out
    go_wp2_with (first | (go_at_call 48; (with_reducible refine (impl_sameStrings.calls k _ _ l0_1 _ _ l1_1 false _ ?side1 ?side2 ?side3 ?side4 A7.out).mono ?_); (case side1 => exact C_ (Kd.C_below HR0_1.out HB.out)); (case side2 => exact HC0_1.out); (case side3 => exact C_ (Kd.C_below HR1_1.out HB.out)); (case side4 => exact HC1_1.out); rintro e w' ⟨rfl, ⟨nd, rfl⟩⟩))
    go_meet
    case rel => exact ⟨_, (true), q_, H', ⟨le_⟩, ⟨K_ BK119.out⟩, ⟨K_ BK120.out⟩, ⟨B2_ HB.out GE119.out GE120.out⟩⟩
  ·rw [if_neg c6] at H
   have c6b0 : (a0_0 == a1_0) = false := beq_eq_false_iff_ne.mpr c6
   have c6b1 : (a0_0 != a1_0) = true := bne_iff_ne.mpr c6
   (first | rw [c6b0] | (simp only [i64_w, i32_w]; rw [c6b0]) | skip)
   have H' := Aside0.mk H
   clear H
   have hnb15 := NB119_120.out
   have hnc15 := NB120_119.out
   obtain ⟨hcz16_0, hcz16_1, hcz16_2, hfz16_0, hfz16_1, hfz16_2⟩ := box3_ BK119.out
   obtain ⟨hcz17_0, hcz17_1, hcz17_2, hfz17_0, hfz17_1, hfz17_2⟩ := box3_ BK120.out
   go_wp2
   go_meet
   case rel => exact ⟨_, (true), q_, H', ⟨le_⟩, ⟨K_ BK119.out⟩, ⟨K_ BK120.out⟩, ⟨B2_ HB.out GE119.out GE120.out⟩⟩
 case rest =>
  clear HC3
  obtain ⟨kq, x27_2, rfl, HA, HJ2, BK119, BK120, HB⟩ := hcut
  cases kq with
  | zero => exact absurd HA.out (by simp [impl_EqualType.j0])
  | succ kj2 =>
   have H := HA.out
   clear HA
   simp only [impl_EqualType.j0] at H
   by_cases c18 : x27_2 = true
   ·subst c18
    have H1 : (some false) = some r := by rw [if_pos rfl] at H; exact H
    clear H
    have H := H1
    clear H1
    obtain rfl := Option.some.inj H
    go_wp2
    go_ret
    exact ⟨er_, B2_ HB.out GE119.out GE120.out⟩
   ·replace c18 := Bool.eq_false_iff.mpr c18
    subst c18
    have H1 : (impl_EqualType.l0 kj2 (l0_2.length : Int) 0 a0_0 l0_1 l0_2 a1_0 l1_1 l1_2) = some r := by rw [if_neg (show ¬ (false = true) by decide)] at H; exact H
    clear H
    have H := H1
    clear H1
    have H' := Aside0.mk H
    clear H
    have hnb19 := NB119_120.out
    have hnc19 := NB120_119.out
    obtain ⟨hcz20_0, hcz20_1, hcz20_2, hfz20_0, hfz20_1, hfz20_2⟩ := box3_ BK119.out
    go_wp2
    go_loopg [31] kj2 (fun kq v31 w' => ∃ (x31_2 : Int), v31 = .int .i64 x31_2 ∧ Aside0 (impl_EqualType.l0 kq (l0_2.length : Int) x31_2 a0_0 l0_1 l0_2 a1_0 l1_1 l1_2 = some r) ∧ Aside0 (kq ≤ kj2) ∧ Aside0 (w'.heap[gb119]? = some (.cells #[.int .i64 a0_0, (.slice A0_1 l0_1.length c0_1), (.slice A0_2 l0_2.length c0_2)] 30 (0, 0))) ∧ Aside0 (w'.heap[gb120]? = some (.cells #[.int .i64 a1_0, (.slice A1_1 l1_1.length c1_1), (.slice A1_2 l1_2.length c1_2)] 30 (0, 0))) ∧ Aside0 (Below w.heap.size w w'))
    case atStart => exact ⟨(0), q_, H', ⟨Nat.le_refl _⟩, ⟨K_ BK119.out⟩, ⟨K_ BK120.out⟩, ⟨B2_ HB.out GE119.out GE120.out⟩⟩
    case round =>
     clear H'
     try clear c18
     try clear hcz20_0
     try clear hcz20_1
     try clear hcz20_2
     try clear hfz20_0
     try clear hfz20_1
     try clear hfz20_2
     obtain ⟨x31_2, rfl, HA, HK2, BK119, BK120, HB⟩ := hrel
     cases gk with
     | zero => exact absurd HA.out (by simp [impl_EqualType.l0])
     | succ k2 =>
      have H := HA.out
      clear HA
      simp only [impl_EqualType.l0] at H
      by_cases c21 : x31_2 < (l0_2.length : Int)
      ·rw [if_pos c21] at H
       have c21b0 : decide (x31_2 < (l0_2.length : Int)) = true := decide_eq_true c21
       clear c21
       by_cases c22 : 0 ≤ x31_2
       ·rw [if_pos c22] at H
        have c22b0 : decide (0 ≤ x31_2) = true := decide_eq_true c22
        clear c22
        by_cases c23 : x31_2 < (l0_2.length : Int)
        ·rw [if_pos c23] at H
         have c23b0 : decide (x31_2 < (l0_2.length : Int)) = true := decide_eq_true c23
         clear c23
         by_cases c24 : x31_2 < (l1_2.length : Int)
         ·rw [if_pos c24] at H
          have c24b0 : decide (x31_2 < (l1_2.length : Int)) = true := decide_eq_true c24
          clear c24
          replace H := Option.bind_eq_some_iff.mp H
          obtain ⟨t124, A250, H⟩ := H
          replace H : (if t124 = true then (impl_EqualType.l0 k2 (l0_2.length : Int) (wrap64 (x31_2 + 1)) a0_0 l0_1 l0_2 a1_0 l1_1 l1_2) else (some false)) = some r := H
          have A25 := Aside0.mk A250
          clear A250
          by_cases c26 : t124 = true
          ·subst c26
           have H1 : (impl_EqualType.l0 k2 (l0_2.length : Int) (wrap64 (x31_2 + 1)) a0_0 l0_1 l0_2 a1_0 l1_1 l1_2) = some r := by rw [if_pos rfl] at H; exact H
           clear H
           have H := H1
           clear H1
           have H' := Aside0.mk H
           clear H
           try go_wp2
           replace BK119 := Aside0.mk (blk_drew BK119.out)
           replace BK120 := Aside0.mk (blk_drew BK120.out)
           replace HB := Aside0.mk (below_drew1 HB.out)
           have p122 : 0 ≤ (x31_2 : Int) := de_
           have q122 : x31_2 < (l0_2.length : Int) := de_
           obtain ⟨ad122, A122_1, c122_1, A122_2, c122_2, e122, hx122_0, hx122_1, hx122_2, hl122_1, hi122_1, hl122_2, hi122_2⟩ := at_T30 HR0_2.out x31_2 p122 q122
           have hw122_2 := hx122_2
           have hw122_1 := hx122_1
           have hw122_0 := hx122_0
           cases e122
           replace hx122_0 := (HB.out.cell (World.block_lt_of_cell? w _ hx122_0)).trans hx122_0
           replace hx122_1 := (HB.out.cell (World.block_lt_of_cell? w _ hx122_1)).trans hx122_1
           replace hx122_2 := (HB.out.cell (World.block_lt_of_cell? w _ hx122_2)).trans hx122_2
           have HR122_1 := Aside0.mk hi122_1
           have HC122_1 := Aside0.mk hl122_1
           clear hi122_1 hl122_1
           have HR122_2 := Aside0.mk hi122_2
           have HC122_2 := Aside0.mk hl122_2
           clear hi122_2 hl122_2
           replace p122 := eq_true p122
           replace q122 := eq_true q122
           have p123 : 0 ≤ (x31_2 : Int) := de_
           have q123 : x31_2 < (l1_2.length : Int) := de_
           obtain ⟨ad123, A123_1, c123_1, A123_2, c123_2, e123, hx123_0, hx123_1, hx123_2, hl123_1, hi123_1, hl123_2, hi123_2⟩ := at_T30 HR1_2.out x31_2 p123 q123
           have hw123_2 := hx123_2
           have hw123_1 := hx123_1
           have hw123_0 := hx123_0
           cases e123
           replace hx123_0 := (HB.out.cell (World.block_lt_of_cell? w _ hx123_0)).trans hx123_0
           replace hx123_1 := (HB.out.cell (World.block_lt_of_cell? w _ hx123_1)).trans hx123_1
           replace hx123_2 := (HB.out.cell (World.block_lt_of_cell? w _ hx123_2)).trans hx123_2
           have HR123_1 := Aside0.mk hi123_1
           have HC123_1 := Aside0.mk hl123_1
           clear hi123_1 hl123_1
           have HR123_2 := Aside0.mk hi123_2
           have HC123_2 := Aside0.mk hl123_2
           clear hi123_2 hl123_2
           replace p123 := eq_true p123
           replace q123 := eq_true q123
           refine start_ (n := 12) (S := fun w' => w'.cell? ⟨gb119, 0, none⟩ = some (.int .i64 a0_0) ∧ w'.cell? ⟨gb119, 1, none⟩ = some (.slice A0_1 l0_1.length c0_1) ∧ w'.cell? ⟨gb119, 2, none⟩ = some (.slice (some ad122) l0_2.length c0_2) ∧ w'.cell? ⟨gb120, 0, none⟩ = some (.int .i64 a1_0) ∧ w'.cell? ⟨gb120, 1, none⟩ = some (.slice A1_1 l1_1.length c1_1) ∧ w'.cell? ⟨gb120, 2, none⟩ = some (.slice (some ad123) l1_2.length c1_2) ∧ w'.cell? (ad122.add ((x31_2).toNat * 3)) = some (.int .i64 ((rd_T30 l0_2 x31_2).f0)) ∧ w'.cell? ⟨(ad122.add ((x31_2).toNat * 3)).block, (ad122.add ((x31_2).toNat * 3)).off + 1, none⟩ = some (.slice A122_1 ((rd_T30 l0_2 x31_2).f1).length c122_1) ∧ w'.cell? ⟨(ad122.add ((x31_2).toNat * 3)).block, (ad122.add ((x31_2).toNat * 3)).off + 2, none⟩ = some (.slice A122_2 ((rd_T30 l0_2 x31_2).f2).length c122_2) ∧ w'.cell? (ad123.add ((x31_2).toNat * 3)) = some (.int .i64 ((rd_T30 l1_2 x31_2).f0)) ∧ w'.cell? ⟨(ad123.add ((x31_2).toNat * 3)).block, (ad123.add ((x31_2).toNat * 3)).off + 1, none⟩ = some (.slice A123_1 ((rd_T30 l1_2 x31_2).f1).length c123_1) ∧ w'.cell? ⟨(ad123.add ((x31_2).toNat * 3)).block, (ad123.add ((x31_2).toNat * 3)).off + 2, none⟩ = some (.slice A123_2 ((rd_T30 l1_2 x31_2).f2).length c123_2)) (ds := []) #[false, false, false, false, false, false, false, false, false, false, false, false] (by kernel_rfl) rfl rfl ⟨(blk_cell BK119.out 0).trans rfl, (blk_cell BK119.out 1).trans rfl, (blk_cell BK119.out 2).trans rfl, (blk_cell BK120.out 0).trans rfl, (blk_cell BK120.out 1).trans rfl, (blk_cell BK120.out 2).trans rfl, ((HB.out.cell (World.block_lt_of_cell? w _ hw122_0)).trans hw122_0), ((HB.out.cell (World.block_lt_of_cell? w _ hw122_1)).trans hw122_1), ((HB.out.cell (World.block_lt_of_cell? w _ hw122_2)).trans hw122_2), ((HB.out.cell (World.block_lt_of_cell? w _ hw123_0)).trans hw123_0), ((HB.out.cell (World.block_lt_of_cell? w _ hw123_1)).trans hw123_1), ((HB.out.cell (World.block_lt_of_cell? w _ hw123_2)).trans hw123_2)⟩ (fun hHeld => ?_); refine with_tabW impl_EqualType.tab6 impl_EqualType.bits6 (fun HT_ HW_ => ?_)
           generalize wr.drew = w27 at BK119 BK120 HB HR122_1 HR122_2 HR123_1 HR123_2 hx122_0 hx122_1 hx122_2 hx123_0 hx123_1 hx123_2 hHeld ⊢
           refine pu_ HT_ (i := 0) (N := some 34) (mk_ 12 1) rfl rfl ?_
           refine pu_ HT_ (i := 2) (N := some 36) (mk_ 12 5) rfl rfl ?_
           refine pu_ HT_ (i := 5) (N := some 39) (mk_ 12 37) rfl rfl ?_
           refine pu_ HT_ (i := 7) (N := some 41) (mk_ 12 165) rfl rfl ?_
           refine tk_ HT_ HW_ hHeld (i := 1) (N := some 35) (mk_ 12 167) rfl rfl ?_
           refine pu_ HT_ (i := 3) (N := some 37) (mk_ 12 175) rfl rfl ?_
           refine tk_ HT_ HW_ hHeld (i := 4) (N := some 38) (mk_ 12 191) rfl rfl ?_
           refine tk_ HT_ HW_ hHeld (i := 6) (N := some 40) (mk_ 12 255) rfl rfl ?_
           refine pu_ HT_ (i := 8) (N := some 42) (mk_ 12 511) rfl rfl ?_
           refine tk_ HT_ HW_ hHeld (i := 9) (N := some 43) (mk_ 12 1023) rfl rfl ?_
           refine on_ HT_ (i := 10) (N := some 44) (mk_ 12 2047) rfl rfl (fun K hK => ?_)
           refine goes_ Try.func21 (by kernel_rfl) rfl #[.agg #[.int .i64 ((rd_T30 l0_2 x31_2).f0), .slice A122_1 ((rd_T30 l0_2 x31_2).f1).length c122_1, .slice A122_2 ((rd_T30 l0_2 x31_2).f2).length c122_2], .agg #[.int .i64 ((rd_T30 l1_2 x31_2).f0), .slice A123_1 ((rd_T30 l1_2 x31_2).f1).length c123_1, .slice A123_2 ((rd_T30 l1_2 x31_2).f2).length c123_2]] (by rfl) rfl rfl ma_ ?_
           with_reducible refine (ih k2 (by have := HJ2.out; have := HK2.out; omega) ((rd_T30 l0_2 x31_2).f0) _ _ ((rd_T30 l0_2 x31_2).f1) _ _ ((rd_T30 l0_2 x31_2).f2) ((rd_T30 l1_2 x31_2).f0) _ _ ((rd_T30 l1_2 x31_2).f1) _ _ ((rd_T30 l1_2 x31_2).f2) true _ ?side1 ?side2 ?side3 ?side4 ?side5 ?side6 ?side7 ?side8 A25.out).mono ?_
           (case side1 => exact C_ (Kd.C_below HR122_1.out HB.out))
           (case side2 => exact HC122_1.out)
           (case side3 => exact C_ (Kd.C_below HR122_2.out HB.out))
           (case side4 => exact HC122_2.out)
           (case side5 => exact C_ (Kd.C_below HR123_1.out HB.out))
           (case side6 => exact HC123_1.out)
           (case side7 => exact C_ (Kd.C_below HR123_2.out HB.out))
           (case side8 => exact HC123_2.out)
           rintro e w28 ⟨rfl, hb⟩
           refine ⟨_, rfl, ?_⟩
           replace BK119 := kb_ BK119 hb
           replace BK120 := kb_ BK120 hb
           replace HB := Aside0.mk (below_step (B2_ HB.out GE119.out GE120.out) hb)
           (try clear hb)
           (try clear hb2)
           (try clear hk)
           (try clear hi)
           refine hK.out _ _ ⟨(blk_cell BK119.out 0).trans rfl, (blk_cell BK119.out 1).trans rfl, (blk_cell BK119.out 2).trans rfl, (blk_cell BK120.out 0).trans rfl, (blk_cell BK120.out 1).trans rfl, (blk_cell BK120.out 2).trans rfl, ((HB.out.cell (World.block_lt_of_cell? w _ hw122_0)).trans hw122_0), ((HB.out.cell (World.block_lt_of_cell? w _ hw122_1)).trans hw122_1), ((HB.out.cell (World.block_lt_of_cell? w _ hw122_2)).trans hw122_2), ((HB.out.cell (World.block_lt_of_cell? w _ hw123_0)).trans hw123_0), ((HB.out.cell (World.block_lt_of_cell? w _ hw123_1)).trans hw123_1), ((HB.out.cell (World.block_lt_of_cell? w _ hw123_2)).trans hw123_2)⟩ (fun hHeld => ?_)
           clear hK K
           refine nm_ (some 44) ?_
           refine pu_ HT_ (i := 11) (N := some 45) (mk_ 12 4095) rfl rfl ?_
           refine done_ (done_of HT_.out (by kernel_rfl)) ?_
           try go_wp2
           go_roundg k2
           case measure => have := HJ2.out; have := HK2.out; omega
           case rel => exact ⟨(wrap64 (x31_2 + 1)), q_, H', ⟨by have := HJ2.out; have := HK2.out; omega⟩, ⟨K_ BK119.out⟩, ⟨K_ BK120.out⟩, ⟨B2_ HB.out GE119.out GE120.out⟩⟩
          ·replace c26 := Bool.eq_false_iff.mpr c26
           subst c26
           have H1 : (some false) = some r := by rw [if_neg (show ¬ (false = true) by decide)] at H; exact H
           clear H
           have H := H1
           clear H1
           obtain rfl := Option.some.inj H
           try go_wp2
           replace BK119 := Aside0.mk (blk_drew BK119.out)
           replace BK120 := Aside0.mk (blk_drew BK120.out)
           replace HB := Aside0.mk (below_drew1 HB.out)
           have p122 : 0 ≤ (x31_2 : Int) := de_
           have q122 : x31_2 < (l0_2.length : Int) := de_
           obtain ⟨ad122, A122_1, c122_1, A122_2, c122_2, e122, hx122_0, hx122_1, hx122_2, hl122_1, hi122_1, hl122_2, hi122_2⟩ := at_T30 HR0_2.out x31_2 p122 q122
           have hw122_2 := hx122_2
           have hw122_1 := hx122_1
           have hw122_0 := hx122_0
           cases e122
           replace hx122_0 := (HB.out.cell (World.block_lt_of_cell? w _ hx122_0)).trans hx122_0
           replace hx122_1 := (HB.out.cell (World.block_lt_of_cell? w _ hx122_1)).trans hx122_1
           replace hx122_2 := (HB.out.cell (World.block_lt_of_cell? w _ hx122_2)).trans hx122_2
           have HR122_1 := Aside0.mk hi122_1
           have HC122_1 := Aside0.mk hl122_1
           clear hi122_1 hl122_1
           have HR122_2 := Aside0.mk hi122_2
           have HC122_2 := Aside0.mk hl122_2
           clear hi122_2 hl122_2
           replace p122 := eq_true p122
           replace q122 := eq_true q122
           have p123 : 0 ≤ (x31_2 : Int) := de_
           have q123 : x31_2 < (l1_2.length : Int) := de_
           obtain ⟨ad123, A123_1, c123_1, A123_2, c123_2, e123, hx123_0, hx123_1, hx123_2, hl123_1, hi123_1, hl123_2, hi123_2⟩ := at_T30 HR1_2.out x31_2 p123 q123
           have hw123_2 := hx123_2
           have hw123_1 := hx123_1
           have hw123_0 := hx123_0
           cases e123
           replace hx123_0 := (HB.out.cell (World.block_lt_of_cell? w _ hx123_0)).trans hx123_0
           replace hx123_1 := (HB.out.cell (World.block_lt_of_cell? w _ hx123_1)).trans hx123_1
           replace hx123_2 := (HB.out.cell (World.block_lt_of_cell? w _ hx123_2)).trans hx123_2
           have HR123_1 := Aside0.mk hi123_1
           have HC123_1 := Aside0.mk hl123_1
           clear hi123_1 hl123_1
           have HR123_2 := Aside0.mk hi123_2
           have HC123_2 := Aside0.mk hl123_2
           clear hi123_2 hl123_2
           replace p123 := eq_true p123
           replace q123 := eq_true q123
           refine start_ (n := 12) (S := fun w' => w'.cell? ⟨gb119, 0, none⟩ = some (.int .i64 a0_0) ∧ w'.cell? ⟨gb119, 1, none⟩ = some (.slice A0_1 l0_1.length c0_1) ∧ w'.cell? ⟨gb119, 2, none⟩ = some (.slice (some ad122) l0_2.length c0_2) ∧ w'.cell? ⟨gb120, 0, none⟩ = some (.int .i64 a1_0) ∧ w'.cell? ⟨gb120, 1, none⟩ = some (.slice A1_1 l1_1.length c1_1) ∧ w'.cell? ⟨gb120, 2, none⟩ = some (.slice (some ad123) l1_2.length c1_2) ∧ w'.cell? (ad122.add ((x31_2).toNat * 3)) = some (.int .i64 ((rd_T30 l0_2 x31_2).f0)) ∧ w'.cell? ⟨(ad122.add ((x31_2).toNat * 3)).block, (ad122.add ((x31_2).toNat * 3)).off + 1, none⟩ = some (.slice A122_1 ((rd_T30 l0_2 x31_2).f1).length c122_1) ∧ w'.cell? ⟨(ad122.add ((x31_2).toNat * 3)).block, (ad122.add ((x31_2).toNat * 3)).off + 2, none⟩ = some (.slice A122_2 ((rd_T30 l0_2 x31_2).f2).length c122_2) ∧ w'.cell? (ad123.add ((x31_2).toNat * 3)) = some (.int .i64 ((rd_T30 l1_2 x31_2).f0)) ∧ w'.cell? ⟨(ad123.add ((x31_2).toNat * 3)).block, (ad123.add ((x31_2).toNat * 3)).off + 1, none⟩ = some (.slice A123_1 ((rd_T30 l1_2 x31_2).f1).length c123_1) ∧ w'.cell? ⟨(ad123.add ((x31_2).toNat * 3)).block, (ad123.add ((x31_2).toNat * 3)).off + 2, none⟩ = some (.slice A123_2 ((rd_T30 l1_2 x31_2).f2).length c123_2)) (ds := []) #[false, false, false, false, false, false, false, false, false, false, false, false] (by kernel_rfl) rfl rfl ⟨(blk_cell BK119.out 0).trans rfl, (blk_cell BK119.out 1).trans rfl, (blk_cell BK119.out 2).trans rfl, (blk_cell BK120.out 0).trans rfl, (blk_cell BK120.out 1).trans rfl, (blk_cell BK120.out 2).trans rfl, ((HB.out.cell (World.block_lt_of_cell? w _ hw122_0)).trans hw122_0), ((HB.out.cell (World.block_lt_of_cell? w _ hw122_1)).trans hw122_1), ((HB.out.cell (World.block_lt_of_cell? w _ hw122_2)).trans hw122_2), ((HB.out.cell (World.block_lt_of_cell? w _ hw123_0)).trans hw123_0), ((HB.out.cell (World.block_lt_of_cell? w _ hw123_1)).trans hw123_1), ((HB.out.cell (World.block_lt_of_cell? w _ hw123_2)).trans hw123_2)⟩ (fun hHeld => ?_); refine with_tabW impl_EqualType.tab6 impl_EqualType.bits6 (fun HT_ HW_ => ?_)
           generalize wr.drew = w29 at BK119 BK120 HB HR122_1 HR122_2 HR123_1 HR123_2 hx122_0 hx122_1 hx122_2 hx123_0 hx123_1 hx123_2 hHeld ⊢
           refine pu_ HT_ (i := 0) (N := some 34) (mk_ 12 1) rfl rfl ?_
           refine pu_ HT_ (i := 2) (N := some 36) (mk_ 12 5) rfl rfl ?_
           refine pu_ HT_ (i := 5) (N := some 39) (mk_ 12 37) rfl rfl ?_
           refine pu_ HT_ (i := 7) (N := some 41) (mk_ 12 165) rfl rfl ?_
           refine tk_ HT_ HW_ hHeld (i := 1) (N := some 35) (mk_ 12 167) rfl rfl ?_
           refine pu_ HT_ (i := 3) (N := some 37) (mk_ 12 175) rfl rfl ?_
           refine tk_ HT_ HW_ hHeld (i := 4) (N := some 38) (mk_ 12 191) rfl rfl ?_
           refine tk_ HT_ HW_ hHeld (i := 6) (N := some 40) (mk_ 12 255) rfl rfl ?_
           refine pu_ HT_ (i := 8) (N := some 42) (mk_ 12 511) rfl rfl ?_
           refine tk_ HT_ HW_ hHeld (i := 9) (N := some 43) (mk_ 12 1023) rfl rfl ?_
           refine on_ HT_ (i := 10) (N := some 44) (mk_ 12 2047) rfl rfl (fun K hK => ?_)
           refine goes_ Try.func21 (by kernel_rfl) rfl #[.agg #[.int .i64 ((rd_T30 l0_2 x31_2).f0), .slice A122_1 ((rd_T30 l0_2 x31_2).f1).length c122_1, .slice A122_2 ((rd_T30 l0_2 x31_2).f2).length c122_2], .agg #[.int .i64 ((rd_T30 l1_2 x31_2).f0), .slice A123_1 ((rd_T30 l1_2 x31_2).f1).length c123_1, .slice A123_2 ((rd_T30 l1_2 x31_2).f2).length c123_2]] (by rfl) rfl rfl ma_ ?_
           with_reducible refine (ih k2 (by have := HJ2.out; have := HK2.out; omega) ((rd_T30 l0_2 x31_2).f0) _ _ ((rd_T30 l0_2 x31_2).f1) _ _ ((rd_T30 l0_2 x31_2).f2) ((rd_T30 l1_2 x31_2).f0) _ _ ((rd_T30 l1_2 x31_2).f1) _ _ ((rd_T30 l1_2 x31_2).f2) false _ ?side1 ?side2 ?side3 ?side4 ?side5 ?side6 ?side7 ?side8 A25.out).mono ?_
           (case side1 => exact C_ (Kd.C_below HR122_1.out HB.out))
           (case side2 => exact HC122_1.out)
           (case side3 => exact C_ (Kd.C_below HR122_2.out HB.out))
           (case side4 => exact HC122_2.out)
           (case side5 => exact C_ (Kd.C_below HR123_1.out HB.out))
           (case side6 => exact HC123_1.out)
           (case side7 => exact C_ (Kd.C_below HR123_2.out HB.out))
           (case side8 => exact HC123_2.out)
           rintro e w30 ⟨rfl, hb⟩
           refine ⟨_, rfl, ?_⟩
           replace BK119 := kb_ BK119 hb
           replace BK120 := kb_ BK120 hb
           replace HB := Aside0.mk (below_step (B2_ HB.out GE119.out GE120.out) hb)
           (try clear hb)
           (try clear hb2)
           (try clear hk)
           (try clear hi)
           refine hK.out _ _ ⟨(blk_cell BK119.out 0).trans rfl, (blk_cell BK119.out 1).trans rfl, (blk_cell BK119.out 2).trans rfl, (blk_cell BK120.out 0).trans rfl, (blk_cell BK120.out 1).trans rfl, (blk_cell BK120.out 2).trans rfl, ((HB.out.cell (World.block_lt_of_cell? w _ hw122_0)).trans hw122_0), ((HB.out.cell (World.block_lt_of_cell? w _ hw122_1)).trans hw122_1), ((HB.out.cell (World.block_lt_of_cell? w _ hw122_2)).trans hw122_2), ((HB.out.cell (World.block_lt_of_cell? w _ hw123_0)).trans hw123_0), ((HB.out.cell (World.block_lt_of_cell? w _ hw123_1)).trans hw123_1), ((HB.out.cell (World.block_lt_of_cell? w _ hw123_2)).trans hw123_2)⟩ (fun hHeld => ?_)
           clear hK K
           refine nm_ (some 44) ?_
           refine pu_ HT_ (i := 11) (N := some 45) (mk_ 12 4095) rfl rfl ?_
           refine done_ (done_of HT_.out (by kernel_rfl)) ?_
           try go_wp2
           go_ret
           exact ⟨er_, B2_ HB.out GE119.out GE120.out⟩
         ·rw [if_neg c24] at H
          exact absurd H (by simp)
        ·rw [if_neg c23] at H
         exact absurd H (by simp)
       ·rw [if_neg c22] at H
        exact absurd H (by simp)
      ·rw [if_neg c21] at H
       have c21b0 : decide (x31_2 < (l0_2.length : Int)) = false := decide_eq_false c21
       clear c21
       obtain rfl := Option.some.inj H
       go_wp2
       go_ret
       exact ⟨er_, B2_ HB.out GE119.out GE120.out⟩

/-! ### spec_l1Max: function 46 -/
def spec_l1Max.f (a0 : Int) (a1 : Int) : Option (Int) := if a0 > a1 then (some a0) else (some a1)
set_option maxHeartbeats 8000000 in
set_option maxRecDepth 100000 in
theorem spec_l1Max.calls (a0 : Int) (a1 : Int) (r : Int) (w : World) (h : spec_l1Max.f a0 a1 = some r) :
  Calls Try.prog 46 #[.int .i64 a0, .int .i64 a1] w fun e w' => e = .returned (.int .i64 r) ∧ Drawn0 w w' := by
 have H : (if a0 > a1 then (some a0) else (some a1)) = some r := h
 clear h
 by_cases c3 : a0 > a1
 ·rw [if_pos c3] at H
  have c3b0 : decide (a1 < a0) = true := decide_eq_true c3
  clear c3
  obtain rfl := Option.some.inj H
  go_enter Try.func46, Try.ntmps46
  go_wp2
  go_ret
  exact ⟨by first | rfl | (simp; done) | (simp [*]; done), by repeat (first | exact Drawn0.refl _ | apply Drawn0.step)⟩
 ·rw [if_neg c3] at H
  have c3b0 : decide (a1 < a0) = false := decide_eq_false c3
  clear c3
  obtain rfl := Option.some.inj H
  go_enter Try.func46, Try.ntmps46
  go_wp2
  go_ret
  exact ⟨by first | rfl | (simp; done) | (simp [*]; done), by repeat (first | exact Drawn0.refl _ | apply Drawn0.step)⟩

end Go.Proofs.Ytingaflikkeefaa.XB
