-- Written by myprint.py, a program of this session, which runs the kit's printer with changes of its own. Lean checks it.
import Derived.Test.YtingaflikkeefaaXBx0
import Derived.Test.YtingaflikkeefaaXBx1
import Derived.Test.YtingaflikkeefaaXBx7
import Derived.Test.YtingaflikkeefaaSq
namespace Go.Proofs.Ytingaflikkeefaa.XB
open Go.RowKit Go.Proofs.YtingaflikkeefaaW.PrintWords Go.Proofs.YtingaflikkeefaaW.PrintLast Go.Proofs.YtingaflikkeefaaW.PrintMore Go.Proofs.Ytingaflikkeefaa.Sq
attribute [local go_sem] max2_int min2_int max_two min_two max_three min_three max_four min_four   -- for this text's walks alone
set_option linter.unusedVariables false
set_option linter.unusedSimpArgs false

/-! ### impl_typeFormed: function 51 -/
mutual
def impl_typeFormed.j2 : Nat → Bool → Int → List ByteArray → List (S30) → Option (Bool)
 | 0, _, _, _, _ => none
 | k + 1, x3, x154000, x154001, x154002 => impl_typeFormed.l0 k x3 x154002 (x154002.length : Int) 0
def impl_typeFormed.l0 : Nat → Bool → List (S30) → Int → Int → Option (Bool)
 | 0, _, _, _, _ => none
 | k + 1, x3, x49, x50, x51 => if x51 < x50 then (if 0 ≤ x51 then (if x51 < (x49.length : Int) then (if x3 = true then ((impl_typeFormed.f k ((rd_T30 x49 x51).f0) ((rd_T30 x49 x51).f1) ((rd_T30 x49 x51).f2)).bind fun t157 => (impl_typeFormed.l0 k t157 x49 x50 (wrap64 (x51 + 1)))) else (impl_typeFormed.l0 k false x49 x50 (wrap64 (x51 + 1)))) else (none)) else (none)) else (some x3)
def impl_typeFormed.j0 : Nat → Bool → Int → Bool → Int → List ByteArray → List (S30) → Option (Bool)
 | 0, _, _, _, _, _, _ => none
 | k + 1, x3, x7, x8, x154000, x154001, x154002 => if x8 = true then (if (x154001.length : Int) = 0 then (impl_typeFormed.j2 k ((x154002.length : Int) == 0) x154000 x154001 x154002) else (impl_typeFormed.j2 k false x154000 x154001 x154002)) else (if x7 = 3 then (impl_typeFormed.j1 k x3 x7 (x7 == 3) x154000 x154001 x154002) else (impl_typeFormed.j1 k x3 x7 (x7 == 4) x154000 x154001 x154002))
def impl_typeFormed.j1 : Nat → Bool → Int → Bool → Int → List ByteArray → List (S30) → Option (Bool)
 | 0, _, _, _, _, _, _ => none
 | k + 1, x3, x7, x21, x154000, x154001, x154002 => if x21 = true then (if (x154001.length : Int) = (x154002.length : Int) then ((impl_labelsOk.f k x154001).bind fun t154 => (impl_typeFormed.j2 k t154 x154000 x154001 x154002)) else (impl_typeFormed.j2 k false x154000 x154001 x154002)) else (if x7 = 5 then (if (x154001.length : Int) = 0 then (impl_typeFormed.j2 k ((x154002.length : Int) == 1) x154000 x154001 x154002) else (impl_typeFormed.j2 k false x154000 x154001 x154002)) else (impl_typeFormed.j2 k x3 x154000 x154001 x154002))
def impl_typeFormed.f : Nat → Int → List ByteArray → List (S30) → Option (Bool)
 | 0, _, _, _ => none
 | k + 1, a0_0, l0_1, l0_2 => if a0_0 = 1 then (impl_typeFormed.j0 k false a0_0 (a0_0 == 1) a0_0 l0_1 l0_2) else (impl_typeFormed.j0 k false a0_0 (a0_0 == 2) a0_0 l0_1 l0_2)
end
theorem impl_typeFormed.mono_l : ∀ k, (∀ y0 y1 y2, LeO (impl_typeFormed.f k y0 y1 y2) (impl_typeFormed.f (k + 1) y0 y1 y2)) ∧ (∀ y0 y1 y2 y3, LeO (impl_typeFormed.j2 k y0 y1 y2 y3) (impl_typeFormed.j2 (k + 1) y0 y1 y2 y3)) ∧ (∀ y0 y1 y2 y3, LeO (impl_typeFormed.l0 k y0 y1 y2 y3) (impl_typeFormed.l0 (k + 1) y0 y1 y2 y3)) ∧ (∀ y0 y1 y2 y3 y4 y5, LeO (impl_typeFormed.j0 k y0 y1 y2 y3 y4 y5) (impl_typeFormed.j0 (k + 1) y0 y1 y2 y3 y4 y5)) ∧ (∀ y0 y1 y2 y3 y4 y5, LeO (impl_typeFormed.j1 k y0 y1 y2 y3 y4 y5) (impl_typeFormed.j1 (k + 1) y0 y1 y2 y3 y4 y5))
 | 0 => ⟨fun _ _ _ r h => by simp [impl_typeFormed.f] at h, fun _ _ _ _ r h => by simp [impl_typeFormed.j2] at h, fun _ _ _ _ r h => by simp [impl_typeFormed.l0] at h, fun _ _ _ _ _ _ r h => by simp [impl_typeFormed.j0] at h, fun _ _ _ _ _ _ r h => by simp [impl_typeFormed.j1] at h⟩
 | k + 1 => by
  obtain ⟨ih0, ih1, ih2, ih3, ih4⟩ := impl_typeFormed.mono_l k
  refine ⟨?_, ?_, ?_, ?_, ?_⟩
  ·intro y0 y1 y2
   unfold impl_typeFormed.f
   repeat' first
   | (with_reducible exact ih0 _ _ _)
   | (with_reducible exact ih1 _ _ _ _)
   | (with_reducible exact ih2 _ _ _ _)
   | (with_reducible exact ih3 _ _ _ _ _ _)
   | (with_reducible exact ih4 _ _ _ _ _ _)
   | (with_reducible exact impl_labelsOk.mono _ _)
   | (with_reducible exact LeO.refl _)
   | (with_reducible exact LeO.none _)
   | (with_reducible refine LeO.ite ?_ ?_)
   | (with_reducible refine LeO.bind ?_ (fun _ => ?_))
   | exact ih0 _ _ _
   | exact ih1 _ _ _ _
   | exact ih2 _ _ _ _
   | exact ih3 _ _ _ _ _ _
   | exact ih4 _ _ _ _ _ _
   | exact impl_labelsOk.mono _ _
   | exact LeO.none _
   | refine LeO.ite ?_ ?_
   | refine LeO.bind ?_ (fun _ => ?_)
  ·intro y0 y1 y2 y3
   unfold impl_typeFormed.j2
   repeat' first
   | (with_reducible exact ih0 _ _ _)
   | (with_reducible exact ih1 _ _ _ _)
   | (with_reducible exact ih2 _ _ _ _)
   | (with_reducible exact ih3 _ _ _ _ _ _)
   | (with_reducible exact ih4 _ _ _ _ _ _)
   | (with_reducible exact impl_labelsOk.mono _ _)
   | (with_reducible exact LeO.refl _)
   | (with_reducible exact LeO.none _)
   | (with_reducible refine LeO.ite ?_ ?_)
   | (with_reducible refine LeO.bind ?_ (fun _ => ?_))
   | exact ih0 _ _ _
   | exact ih1 _ _ _ _
   | exact ih2 _ _ _ _
   | exact ih3 _ _ _ _ _ _
   | exact ih4 _ _ _ _ _ _
   | exact impl_labelsOk.mono _ _
   | exact LeO.none _
   | refine LeO.ite ?_ ?_
   | refine LeO.bind ?_ (fun _ => ?_)
  ·intro y0 y1 y2 y3
   unfold impl_typeFormed.l0
   repeat' first
   | (with_reducible exact ih0 _ _ _)
   | (with_reducible exact ih1 _ _ _ _)
   | (with_reducible exact ih2 _ _ _ _)
   | (with_reducible exact ih3 _ _ _ _ _ _)
   | (with_reducible exact ih4 _ _ _ _ _ _)
   | (with_reducible exact impl_labelsOk.mono _ _)
   | (with_reducible exact LeO.refl _)
   | (with_reducible exact LeO.none _)
   | (with_reducible refine LeO.ite ?_ ?_)
   | (with_reducible refine LeO.bind ?_ (fun _ => ?_))
   | exact ih0 _ _ _
   | exact ih1 _ _ _ _
   | exact ih2 _ _ _ _
   | exact ih3 _ _ _ _ _ _
   | exact ih4 _ _ _ _ _ _
   | exact impl_labelsOk.mono _ _
   | exact LeO.none _
   | refine LeO.ite ?_ ?_
   | refine LeO.bind ?_ (fun _ => ?_)
  ·intro y0 y1 y2 y3 y4 y5
   unfold impl_typeFormed.j0
   repeat' first
   | (with_reducible exact ih0 _ _ _)
   | (with_reducible exact ih1 _ _ _ _)
   | (with_reducible exact ih2 _ _ _ _)
   | (with_reducible exact ih3 _ _ _ _ _ _)
   | (with_reducible exact ih4 _ _ _ _ _ _)
   | (with_reducible exact impl_labelsOk.mono _ _)
   | (with_reducible exact LeO.refl _)
   | (with_reducible exact LeO.none _)
   | (with_reducible refine LeO.ite ?_ ?_)
   | (with_reducible refine LeO.bind ?_ (fun _ => ?_))
   | exact ih0 _ _ _
   | exact ih1 _ _ _ _
   | exact ih2 _ _ _ _
   | exact ih3 _ _ _ _ _ _
   | exact ih4 _ _ _ _ _ _
   | exact impl_labelsOk.mono _ _
   | exact LeO.none _
   | refine LeO.ite ?_ ?_
   | refine LeO.bind ?_ (fun _ => ?_)
  ·intro y0 y1 y2 y3 y4 y5
   unfold impl_typeFormed.j1
   repeat' first
   | (with_reducible exact ih0 _ _ _)
   | (with_reducible exact ih1 _ _ _ _)
   | (with_reducible exact ih2 _ _ _ _)
   | (with_reducible exact ih3 _ _ _ _ _ _)
   | (with_reducible exact ih4 _ _ _ _ _ _)
   | (with_reducible exact impl_labelsOk.mono _ _)
   | (with_reducible exact LeO.refl _)
   | (with_reducible exact LeO.none _)
   | (with_reducible refine LeO.ite ?_ ?_)
   | (with_reducible refine LeO.bind ?_ (fun _ => ?_))
   | exact ih0 _ _ _
   | exact ih1 _ _ _ _
   | exact ih2 _ _ _ _
   | exact ih3 _ _ _ _ _ _
   | exact ih4 _ _ _ _ _ _
   | exact impl_labelsOk.mono _ _
   | exact LeO.none _
   | refine LeO.ite ?_ ?_
   | refine LeO.bind ?_ (fun _ => ?_)
theorem impl_typeFormed.mono : ∀ a0 a1 a2 k, LeO (impl_typeFormed.f k a0 a1 a2) (impl_typeFormed.f (k + 1) a0 a1 a2) := by
 intro a0 a1 a2 k
 obtain ⟨ih0, ih1, ih2, ih3, ih4⟩ := impl_typeFormed.mono_l k
 exact ih0 a0 a1 a2
set_option maxHeartbeats 8000000 in
set_option maxRecDepth 100000 in
theorem impl_typeFormed.calls (k : Nat) : ∀ (a0_0 : Int) (A0_1 : Option Addr) (c0_1 : Nat) (l0_1 : List ByteArray) (A0_2 : Option Addr) (c0_2 : Nat) (l0_2 : List (S30)) (r : Bool) (w : World) (hr0_1 : Kd.C Kd.string w A0_1 l0_1.length l0_1) (hc0_1 : l0_1.length ≤ c0_1) (hr0_2 : Kd.C k30 w A0_2 l0_2.length l0_2) (hc0_2 : l0_2.length ≤ c0_2) (h : impl_typeFormed.f k a0_0 l0_1 l0_2 = some r),
  Calls Try.prog 51 #[.agg #[.int .i64 a0_0, .slice A0_1 l0_1.length c0_1, .slice A0_2 l0_2.length c0_2]] w fun e w' => e = .returned (.bool r) ∧ Below w.heap.size w w' := by
 induction k using Nat.strongRecOn with
 | _ k ih =>
 intro a0_0 A0_1 c0_1 l0_1 A0_2 c0_2 l0_2 r w hr0_1 hc0_1 hr0_2 hc0_2 h
 cases k with
 | zero => exact absurd h (by simp [impl_typeFormed.f])
 | succ k =>
 simp only [impl_typeFormed.f] at h
 have hu30 := Try.underlying30
 have HR0_1 := Aside0.mk hr0_1
 have HC0_1 := Aside0.mk hc0_1
 clear hr0_1 hc0_1
 have HR0_2 := Aside0.mk hr0_2
 have HC0_2 := Aside0.mk hc0_2
 clear hr0_2 hc0_2
 have HB := Aside0.mk (Below.refl w.heap.size w)
 have H : (if a0_0 = 1 then (impl_typeFormed.j0 k false a0_0 (a0_0 == 1) a0_0 l0_1 l0_2) else (impl_typeFormed.j0 k false a0_0 (a0_0 == 2) a0_0 l0_1 l0_2)) = some r := h
 clear h
 have HC2 := Aside0.mk H
 clear H
 go_enter Try.func51, Try.ntmps51
 go_upto_block 0 with (first | ((with_reducible refine gate_dst (N := 1) rfl ?_); (try (refine gate_guard (by rfl) ?_; dsimp only)); refine box_event ?hg (N := 1) ?hd (cs := #[.int .i64 a0_0, .slice A0_1 l0_1.length c0_1, .slice A0_2 l0_2.length c0_2]) (t := 30) ?hr ?_; (case hd => rfl); (case hg => rfl); (case hr => first | (go_simp; done) | (go_simp; rfl)); intro gb153 hg w3 hbox hb; have BK153 := Aside0.mk (hbox); have GW153 := Aside0.mk ((by rw [hg]; exact (below_size (B0_ HB.out)) : w.heap.size ≤ gb153)); have GE153 := Aside0.mk ((by rw [hg]; exact (below_size (B0_ HB.out)) : w.heap.size ≤ gb153)); replace HB := Aside0.mk (below_step (B0_ HB.out) hb); clear hb hbox hg; obtain ⟨hcz4_0, hcz4_1, hcz4_2, hfz4_0, hfz4_1, hfz4_2⟩ := box3_ BK153.out))
 (try simp only [Act.put, List.setIfInBounds_toArray, List.set_cons_zero, List.set_cons_succ])
 go_cut [3] (fun v3 wc => ∃ (kq : Nat) (x3_1 : Bool), v3 = .bool x3_1 ∧ Aside0 (impl_typeFormed.j2 kq x3_1 a0_0 l0_1 l0_2 = some r) ∧ Aside0 (kq ≤ k) ∧ Aside0 (wc.heap[gb153]? = some (.cells #[.int .i64 a0_0, (.slice A0_1 l0_1.length c0_1), (.slice A0_2 l0_2.length c0_2)] 30 (0, 0))) ∧ Aside0 (Below w.heap.size w wc))
 case first =>
  have H := HC2.out
  clear HC2
  have HC5 := Aside0.mk H
  clear H
  go_upto_if 8 with (fail)
  go_cut [8] (fun v8 wc => ∃ (kq : Nat) (x8_4 : Bool), v8 = .bool x8_4 ∧ Aside0 (impl_typeFormed.j0 kq false a0_0 x8_4 a0_0 l0_1 l0_2 = some r) ∧ Aside0 (kq ≤ k) ∧ Aside0 (wc.heap[gb153]? = some (.cells #[.int .i64 a0_0, (.slice A0_1 l0_1.length c0_1), (.slice A0_2 l0_2.length c0_2)] 30 (0, 0))) ∧ Aside0 (Below w.heap.size w wc))
  case first =>
   have H := HC5.out
   clear HC5
   by_cases c6 : a0_0 = 1
   ·rw [if_pos c6] at H
    have c6b0 : (a0_0 == 1) = true := beq_iff_eq.mpr c6
    have c6b1 : (a0_0 != 1) = false := bne_eq_false_iff_eq.mpr c6
    clear c6
    (first | rw [c6b0] | (simp only [i64_w, i32_w]; rw [c6b0]) | skip)
    have H' := Aside0.mk H
    clear H
    go_wp2
    go_meet
    case rel => exact ⟨_, ((a0_0 == 1)), q_, H', ⟨le_⟩, ⟨K_ BK153.out⟩, ⟨B1_ HB.out GE153.out⟩⟩
   ·rw [if_neg c6] at H
    have c6b0 : (a0_0 == 1) = false := beq_eq_false_iff_ne.mpr c6
    have c6b1 : (a0_0 != 1) = true := bne_iff_ne.mpr c6
    (first | rw [c6b0] | (simp only [i64_w, i32_w]; rw [c6b0]) | skip)
    have H' := Aside0.mk H
    clear H
    go_wp2
    go_meet
    case rel => exact ⟨_, ((a0_0 == 2)), q_, H', ⟨le_⟩, ⟨K_ BK153.out⟩, ⟨B1_ HB.out GE153.out⟩⟩
  case rest =>
   clear HC5
   try clear hcz4_0
   try clear hcz4_1
   try clear hcz4_2
   try clear hfz4_0
   try clear hfz4_1
   try clear hfz4_2
   obtain ⟨kq, x8_4, rfl, HA, HJ4, BK153, HB⟩ := hcut
   cases kq with
   | zero => exact absurd HA.out (by simp [impl_typeFormed.j0])
   | succ kj4 =>
    have H := HA.out
    clear HA
    simp only [impl_typeFormed.j0] at H
    by_cases c7 : x8_4 = true
    ·subst c7
     have H1 : (if (l0_1.length : Int) = 0 then (impl_typeFormed.j2 kj4 ((l0_2.length : Int) == 0) a0_0 l0_1 l0_2) else (impl_typeFormed.j2 kj4 false a0_0 l0_1 l0_2)) = some r := by rw [if_pos rfl] at H; exact H
     clear H
     have H := H1
     clear H1
     by_cases c8 : (l0_1.length : Int) = 0
     ·rw [if_pos c8] at H
      have c8b0 : ((l0_1.length : Int) == 0) = true := beq_iff_eq.mpr c8
      have c8b1 : ((l0_1.length : Int) != 0) = false := bne_eq_false_iff_eq.mpr c8
      clear c8
      have H' := Aside0.mk H
      clear H
      obtain ⟨hcz9_0, hcz9_1, hcz9_2, hfz9_0, hfz9_1, hfz9_2⟩ := box3_ BK153.out
      go_wp2
      go_meet
      case rel => exact ⟨_, (((l0_2.length : Int) == 0)), q_, H', ⟨by have := HJ4.out; first | omega | exact Nat.le_refl _⟩, ⟨K_ BK153.out⟩, ⟨B1_ HB.out GE153.out⟩⟩
     ·rw [if_neg c8] at H
      have c8b0 : ((l0_1.length : Int) == 0) = false := beq_eq_false_iff_ne.mpr c8
      have c8b1 : ((l0_1.length : Int) != 0) = true := bne_iff_ne.mpr c8
      have c8b2 : ¬ (l0_1 = []) := fun h_ => c8 (by rw [h_]; rfl)
      have H' := Aside0.mk H
      clear H
      obtain ⟨hcz10_0, hcz10_1, hcz10_2, hfz10_0, hfz10_1, hfz10_2⟩ := box3_ BK153.out
      go_wp2
      go_meet
      case rel => exact ⟨_, (false), q_, H', ⟨by have := HJ4.out; first | omega | exact Nat.le_refl _⟩, ⟨K_ BK153.out⟩, ⟨B1_ HB.out GE153.out⟩⟩
    ·replace c7 := Bool.eq_false_iff.mpr c7
     subst c7
     have H1 : (if a0_0 = 3 then (impl_typeFormed.j1 kj4 false a0_0 (a0_0 == 3) a0_0 l0_1 l0_2) else (impl_typeFormed.j1 kj4 false a0_0 (a0_0 == 4) a0_0 l0_1 l0_2)) = some r := by rw [if_neg (show ¬ (false = true) by decide)] at H; exact H
     clear H
     have H := H1
     clear H1
     have HC11 := Aside0.mk H
     clear H
     go_upto_if 21 with (fail)
     go_cut [21] (fun v21 wc => ∃ (kq : Nat) (x21_10 : Bool), v21 = .bool x21_10 ∧ Aside0 (impl_typeFormed.j1 kq false a0_0 x21_10 a0_0 l0_1 l0_2 = some r) ∧ Aside0 (kq ≤ kj4) ∧ Aside0 (wc.heap[gb153]? = some (.cells #[.int .i64 a0_0, (.slice A0_1 l0_1.length c0_1), (.slice A0_2 l0_2.length c0_2)] 30 (0, 0))) ∧ Aside0 (Below w.heap.size w wc))
     case first =>
      have H := HC11.out
      clear HC11
      by_cases c12 : a0_0 = 3
      ·rw [if_pos c12] at H
       have c12b0 : (a0_0 == 3) = true := beq_iff_eq.mpr c12
       have c12b1 : (a0_0 != 3) = false := bne_eq_false_iff_eq.mpr c12
       clear c12
       (first | rw [c12b0] | (simp only [i64_w, i32_w]; rw [c12b0]) | skip)
       have H' := Aside0.mk H
       clear H
       go_wp2
       go_meet
       case rel => exact ⟨_, ((a0_0 == 3)), q_, H', ⟨by have := HJ4.out; first | omega | exact Nat.le_refl _⟩, ⟨K_ BK153.out⟩, ⟨B1_ HB.out GE153.out⟩⟩
      ·rw [if_neg c12] at H
       have c12b0 : (a0_0 == 3) = false := beq_eq_false_iff_ne.mpr c12
       have c12b1 : (a0_0 != 3) = true := bne_iff_ne.mpr c12
       (first | rw [c12b0] | (simp only [i64_w, i32_w]; rw [c12b0]) | skip)
       have H' := Aside0.mk H
       clear H
       go_wp2
       go_meet
       case rel => exact ⟨_, ((a0_0 == 4)), q_, H', ⟨by have := HJ4.out; first | omega | exact Nat.le_refl _⟩, ⟨K_ BK153.out⟩, ⟨B1_ HB.out GE153.out⟩⟩
     case rest =>
      clear HC11
      try clear c7
      try clear hcz4_0
      try clear hcz4_1
      try clear hcz4_2
      try clear hfz4_0
      try clear hfz4_1
      try clear hfz4_2
      obtain ⟨kq, x21_10, rfl, HA, HJ10, BK153, HB⟩ := hcut
      cases kq with
      | zero => exact absurd HA.out (by simp [impl_typeFormed.j1])
      | succ kj10 =>
       have H := HA.out
       clear HA
       simp only [impl_typeFormed.j1] at H
       by_cases c13 : x21_10 = true
       ·subst c13
        have H1 : (if (l0_1.length : Int) = (l0_2.length : Int) then ((impl_labelsOk.f kj10 l0_1).bind fun t154 => (impl_typeFormed.j2 kj10 t154 a0_0 l0_1 l0_2)) else (impl_typeFormed.j2 kj10 false a0_0 l0_1 l0_2)) = some r := by rw [if_pos rfl] at H; exact H
        clear H
        have H := H1
        clear H1
        by_cases c14 : (l0_1.length : Int) = (l0_2.length : Int)
        ·rw [if_pos c14] at H
         have c14b0 : ((l0_1.length : Int) == (l0_2.length : Int)) = true := beq_iff_eq.mpr c14
         have c14b1 : ((l0_1.length : Int) != (l0_2.length : Int)) = false := bne_eq_false_iff_eq.mpr c14
         have c14b2 : (l0_1.length == l0_2.length) = true := by first | simpa using c14 | (simp at c14 ⊢; omega)
         clear c14
         replace H := Option.bind_eq_some_iff.mp H
         obtain ⟨t154, A150, H⟩ := H
         replace H : (impl_typeFormed.j2 kj10 t154 a0_0 l0_1 l0_2) = some r := H
         have A15 := Aside0.mk A150
         clear A150
         have H' := Aside0.mk H
         clear H
         obtain ⟨hcz16_0, hcz16_1, hcz16_2, hfz16_0, hfz16_1, hfz16_2⟩ := box3_ BK153.out
         go_wp2_with (first | (go_at_call 70; (with_reducible refine (impl_labelsOk.calls kj10 _ _ l0_1 t154 _ ?side1 ?side2 A15.out).mono ?_); (case side1 => exact C_ (Kd.C_below HR0_1.out HB.out)); (case side2 => exact HC0_1.out); rintro e w' ⟨rfl, ⟨nd, rfl⟩⟩))
         go_meet
         case rel => exact ⟨_, (t154), q_, H', ⟨by have := HJ4.out; have := HJ10.out; first | omega | exact Nat.le_refl _⟩, ⟨K_ BK153.out⟩, ⟨B1_ HB.out GE153.out⟩⟩
        ·rw [if_neg c14] at H
         have c14b0 : ((l0_1.length : Int) == (l0_2.length : Int)) = false := beq_eq_false_iff_ne.mpr c14
         have c14b1 : ((l0_1.length : Int) != (l0_2.length : Int)) = true := bne_iff_ne.mpr c14
         have c14b2 : (l0_1.length == l0_2.length) = false := by first | simpa using c14 | (simp at c14 ⊢; omega)
         have H' := Aside0.mk H
         clear H
         obtain ⟨hcz17_0, hcz17_1, hcz17_2, hfz17_0, hfz17_1, hfz17_2⟩ := box3_ BK153.out
         go_wp2
         go_meet
         case rel => exact ⟨_, (false), q_, H', ⟨by have := HJ4.out; have := HJ10.out; first | omega | exact Nat.le_refl _⟩, ⟨K_ BK153.out⟩, ⟨B1_ HB.out GE153.out⟩⟩
       ·replace c13 := Bool.eq_false_iff.mpr c13
        subst c13
        have H1 : (if a0_0 = 5 then (if (l0_1.length : Int) = 0 then (impl_typeFormed.j2 kj10 ((l0_2.length : Int) == 1) a0_0 l0_1 l0_2) else (impl_typeFormed.j2 kj10 false a0_0 l0_1 l0_2)) else (impl_typeFormed.j2 kj10 false a0_0 l0_1 l0_2)) = some r := by rw [if_neg (show ¬ (false = true) by decide)] at H; exact H
        clear H
        have H := H1
        clear H1
        by_cases c18 : a0_0 = 5
        ·rw [if_pos c18] at H
         have c18b0 : (a0_0 == 5) = true := beq_iff_eq.mpr c18
         have c18b1 : (a0_0 != 5) = false := bne_eq_false_iff_eq.mpr c18
         clear c18
         by_cases c19 : (l0_1.length : Int) = 0
         ·rw [if_pos c19] at H
          have c19b0 : ((l0_1.length : Int) == 0) = true := beq_iff_eq.mpr c19
          have c19b1 : ((l0_1.length : Int) != 0) = false := bne_eq_false_iff_eq.mpr c19
          clear c19
          have H' := Aside0.mk H
          clear H
          obtain ⟨hcz20_0, hcz20_1, hcz20_2, hfz20_0, hfz20_1, hfz20_2⟩ := box3_ BK153.out
          go_wp2
          go_meet
          case rel => exact ⟨_, (((l0_2.length : Int) == 1)), q_, H', ⟨by have := HJ4.out; have := HJ10.out; first | omega | exact Nat.le_refl _⟩, ⟨K_ BK153.out⟩, ⟨B1_ HB.out GE153.out⟩⟩
         ·rw [if_neg c19] at H
          have c19b0 : ((l0_1.length : Int) == 0) = false := beq_eq_false_iff_ne.mpr c19
          have c19b1 : ((l0_1.length : Int) != 0) = true := bne_iff_ne.mpr c19
          have c19b2 : ¬ (l0_1 = []) := fun h_ => c19 (by rw [h_]; rfl)
          have H' := Aside0.mk H
          clear H
          obtain ⟨hcz21_0, hcz21_1, hcz21_2, hfz21_0, hfz21_1, hfz21_2⟩ := box3_ BK153.out
          go_wp2
          go_meet
          case rel => exact ⟨_, (false), q_, H', ⟨by have := HJ4.out; have := HJ10.out; first | omega | exact Nat.le_refl _⟩, ⟨K_ BK153.out⟩, ⟨B1_ HB.out GE153.out⟩⟩
        ·rw [if_neg c18] at H
         have c18b0 : (a0_0 == 5) = false := beq_eq_false_iff_ne.mpr c18
         have c18b1 : (a0_0 != 5) = true := bne_iff_ne.mpr c18
         have H' := Aside0.mk H
         clear H
         go_wp2
         go_meet
         case rel => exact ⟨_, (false), q_, H', ⟨by have := HJ4.out; have := HJ10.out; first | omega | exact Nat.le_refl _⟩, ⟨K_ BK153.out⟩, ⟨B1_ HB.out GE153.out⟩⟩
 case rest =>
  clear HC2
  try clear hcz4_0
  try clear hcz4_1
  try clear hcz4_2
  try clear hfz4_0
  try clear hfz4_1
  try clear hfz4_2
  obtain ⟨kq, x3_1, rfl, HA, HJ1, BK153, HB⟩ := hcut
  cases kq with
  | zero => exact absurd HA.out (by simp [impl_typeFormed.j2])
  | succ kj1 =>
   have H := HA.out
   clear HA
   simp only [impl_typeFormed.j2] at H
   have H' := Aside0.mk H
   clear H
   obtain ⟨hcz22_0, hcz22_1, hcz22_2, hfz22_0, hfz22_1, hfz22_2⟩ := box3_ BK153.out
   go_wp2
   go_loopg [3, 51] kj1 (fun kq v3 v51 w' => ∃ (x3_2 : Bool) (x51_2 : Int), v3 = .bool x3_2 ∧ v51 = .int .i64 x51_2 ∧ Aside0 (impl_typeFormed.l0 kq x3_2 l0_2 (l0_2.length : Int) x51_2 = some r) ∧ Aside0 (kq ≤ kj1) ∧ Aside0 (w'.heap[gb153]? = some (.cells #[.int .i64 a0_0, (.slice A0_1 l0_1.length c0_1), (.slice A0_2 l0_2.length c0_2)] 30 (0, 0))) ∧ Aside0 (Below w.heap.size w w'))
   case atStart => exact ⟨(x3_1), (0), q_, q_, H', ⟨Nat.le_refl _⟩, ⟨K_ BK153.out⟩, ⟨B1_ HB.out GE153.out⟩⟩
   case round =>
    clear H'
    try clear hcz22_0
    try clear hcz22_1
    try clear hcz22_2
    try clear hcz4_0
    try clear hcz4_1
    try clear hcz4_2
    try clear hfz22_0
    try clear hfz22_1
    try clear hfz22_2
    try clear hfz4_0
    try clear hfz4_1
    try clear hfz4_2
    obtain ⟨x3_2, x51_2, rfl, rfl, HA, HK2, BK153, HB⟩ := hrel
    cases gk with
    | zero => exact absurd HA.out (by simp [impl_typeFormed.l0])
    | succ k2 =>
     have H := HA.out
     clear HA
     simp only [impl_typeFormed.l0] at H
     by_cases c23 : x51_2 < (l0_2.length : Int)
     ·rw [if_pos c23] at H
      have c23b0 : decide (x51_2 < (l0_2.length : Int)) = true := decide_eq_true c23
      clear c23
      by_cases c24 : 0 ≤ x51_2
      ·rw [if_pos c24] at H
       have c24b0 : decide (0 ≤ x51_2) = true := decide_eq_true c24
       clear c24
       by_cases c25 : x51_2 < (l0_2.length : Int)
       ·rw [if_pos c25] at H
        have c25b0 : decide (x51_2 < (l0_2.length : Int)) = true := decide_eq_true c25
        clear c25
        by_cases c26 : x3_2 = true
        ·subst c26
         have H1 : ((impl_typeFormed.f k2 ((rd_T30 l0_2 x51_2).f0) ((rd_T30 l0_2 x51_2).f1) ((rd_T30 l0_2 x51_2).f2)).bind fun t157 => (impl_typeFormed.l0 k2 t157 l0_2 (l0_2.length : Int) (wrap64 (x51_2 + 1)))) = some r := by rw [if_pos rfl] at H; exact H
         clear H
         have H := H1
         clear H1
         replace H := Option.bind_eq_some_iff.mp H
         obtain ⟨t157, A270, H⟩ := H
         replace H : (impl_typeFormed.l0 k2 t157 l0_2 (l0_2.length : Int) (wrap64 (x51_2 + 1))) = some r := H
         have A27 := Aside0.mk A270
         clear A270
         have H' := Aside0.mk H
         clear H
         have p155 : 0 ≤ (x51_2 : Int) := de_
         have q155 : x51_2 < (l0_2.length : Int) := de_
         obtain ⟨ad155, A155_1, c155_1, A155_2, c155_2, e155, hx155_0, hx155_1, hx155_2, hl155_1, hi155_1, hl155_2, hi155_2⟩ := at_T30 HR0_2.out x51_2 p155 q155
         cases e155
         replace hx155_0 := (HB.out.cell (World.block_lt_of_cell? w _ hx155_0)).trans hx155_0
         replace hx155_1 := (HB.out.cell (World.block_lt_of_cell? w _ hx155_1)).trans hx155_1
         replace hx155_2 := (HB.out.cell (World.block_lt_of_cell? w _ hx155_2)).trans hx155_2
         have HR155_1 := Aside0.mk hi155_1
         have HC155_1 := Aside0.mk hl155_1
         clear hi155_1 hl155_1
         have HR155_2 := Aside0.mk hi155_2
         have HC155_2 := Aside0.mk hl155_2
         clear hi155_2 hl155_2
         replace p155 := eq_true p155
         replace q155 := eq_true q155
         go_wp2_with (first | ((with_reducible refine gate_dst (N := 5) rfl ?_); (try (refine gate_guard (by rfl) ?_; dsimp only)); refine box_event ?hg (N := 5) ?hd (cs := #[.int .i64 0, .slice none 0 0, .slice none 0 0]) (t := 30) ?hr ?_; (case hd => rfl); (case hg => rfl); (case hr => first | (go_simp; done) | (go_simp; rfl)); intro gb156 hg w28 hbox hb; have BK156 := Aside0.mk (hbox); have GW156 := Aside0.mk ((by rw [hg]; exact (below_size (B1_ HB.out GE153.out)) : w.heap.size ≤ gb156)); have GE156 := Aside0.mk ((by rw [hg]; exact (below_size (B1_ HB.out GE153.out)) : w.heap.size ≤ gb156)); replace HB := Aside0.mk (below_step (B1_ HB.out GE153.out) hb); have NB153_156 := Aside0.mk ((by rw [hg]; exact Nat.ne_of_lt (blk_lt (K_ BK153.out)) : gb153 ≠ gb156)); have NB156_153 := Aside0.mk ((by rw [hg]; exact Nat.ne_of_gt (blk_lt (K_ BK153.out)) : gb156 ≠ gb153)); replace BK153 := kb_ BK153 hb; clear hb hbox hg; have hnb29 := NB156_153.out; have hnc29 := NB153_156.out; obtain ⟨hcz30_0, hcz30_1, hcz30_2, hfz30_0, hfz30_1, hfz30_2⟩ := box3_ BK156.out) | (go_at_call 51; (with_reducible refine (ih k2 (by have := HJ1.out; have := HK2.out; omega) ((rd_T30 l0_2 x51_2).f0) _ _ ((rd_T30 l0_2 x51_2).f1) _ _ ((rd_T30 l0_2 x51_2).f2) t157 _ ?side1 ?side2 ?side3 ?side4 A27.out).mono ?_); (case side1 => exact Kd.C_below HR155_1.out (B2_ HB.out GE153.out GE156.out)); (case side2 => exact HC155_1.out); (case side3 => exact Kd.C_below HR155_2.out (B2_ HB.out GE153.out GE156.out)); (case side4 => exact HC155_2.out); rintro e w31 ⟨rfl, hb⟩; replace BK153 := Aside0.mk (blk_below (g := gb153) (o := .cells #[.int .i64 a0_0, .slice A0_1 l0_1.length c0_1, .slice (some ad155) l0_2.length c0_2] 30 (0, 0)) (by (with_reducible repeat (first | refine blk_drewN ?_ _ | refine blk_drew ?_ | refine blk_alloc ?_ _)); refine blk_far ?_ NB153_156.out _; (with_reducible repeat (first | refine blk_drewN ?_ _ | refine blk_drew ?_ | refine blk_alloc ?_ _)); refine blk_far ?_ NB153_156.out _; (with_reducible repeat (first | refine blk_drewN ?_ _ | refine blk_drew ?_ | refine blk_alloc ?_ _)); refine blk_far ?_ NB153_156.out _; (with_reducible repeat (first | refine blk_drewN ?_ _ | refine blk_drew ?_ | refine blk_alloc ?_ _)); exact BK153.out) hb); replace BK156 := Aside0.mk (blk_below (g := gb156) (o := .cells #[.int .i64 ((rd_T30 l0_2 x51_2).f0), .slice A155_1 ((rd_T30 l0_2 x51_2).f1).length c155_1, .slice A155_2 ((rd_T30 l0_2 x51_2).f2).length c155_2] 30 (0, 0)) (by (with_reducible repeat (first | refine blk_drewN ?_ _ | refine blk_drew ?_ | refine blk_alloc ?_ _)); refine blk_put (cs := #[.int .i64 ((rd_T30 l0_2 x51_2).f0), .slice A155_1 ((rd_T30 l0_2 x51_2).f1).length c155_1, .slice none 0 0]) ?_ 2 _ rfl; (with_reducible repeat (first | refine blk_drewN ?_ _ | refine blk_drew ?_ | refine blk_alloc ?_ _)); refine blk_put (cs := #[.int .i64 ((rd_T30 l0_2 x51_2).f0), .slice none 0 0, .slice none 0 0]) ?_ 1 _ rfl; (with_reducible repeat (first | refine blk_drewN ?_ _ | refine blk_drew ?_ | refine blk_alloc ?_ _)); refine blk_put (cs := #[.int .i64 0, .slice none 0 0, .slice none 0 0]) ?_ 0 _ rfl; (with_reducible repeat (first | refine blk_drewN ?_ _ | refine blk_drew ?_ | refine blk_alloc ?_ _)); exact BK156.out) hb); replace HB := Aside0.mk (below_step (B2_ HB.out GE153.out GE156.out) hb); (try clear hb); (try clear hb2); (try clear hk); (try clear hi)))
         go_roundg k2
         case measure => have := HJ1.out; have := HK2.out; omega
         case rel => exact ⟨(t157), (wrap64 (x51_2 + 1)), q_, q_, H', ⟨by have := HJ1.out; have := HK2.out; omega⟩, ⟨K_ BK153.out⟩, ⟨B2_ HB.out GE153.out GE156.out⟩⟩
        ·replace c26 := Bool.eq_false_iff.mpr c26
         subst c26
         have H1 : (impl_typeFormed.l0 k2 false l0_2 (l0_2.length : Int) (wrap64 (x51_2 + 1))) = some r := by rw [if_neg (show ¬ (false = true) by decide)] at H; exact H
         clear H
         have H := H1
         clear H1
         have H' := Aside0.mk H
         clear H
         have p155 : 0 ≤ (x51_2 : Int) := de_
         have q155 : x51_2 < (l0_2.length : Int) := de_
         obtain ⟨ad155, A155_1, c155_1, A155_2, c155_2, e155, hx155_0, hx155_1, hx155_2, hl155_1, hi155_1, hl155_2, hi155_2⟩ := at_T30 HR0_2.out x51_2 p155 q155
         cases e155
         replace hx155_0 := (HB.out.cell (World.block_lt_of_cell? w _ hx155_0)).trans hx155_0
         replace hx155_1 := (HB.out.cell (World.block_lt_of_cell? w _ hx155_1)).trans hx155_1
         replace hx155_2 := (HB.out.cell (World.block_lt_of_cell? w _ hx155_2)).trans hx155_2
         have HR155_1 := Aside0.mk hi155_1
         have HC155_1 := Aside0.mk hl155_1
         clear hi155_1 hl155_1
         have HR155_2 := Aside0.mk hi155_2
         have HC155_2 := Aside0.mk hl155_2
         clear hi155_2 hl155_2
         replace p155 := eq_true p155
         replace q155 := eq_true q155
         go_wp2_with (first | ((with_reducible refine gate_dst (N := 5) rfl ?_); (try (refine gate_guard (by rfl) ?_; dsimp only)); refine box_event ?hg (N := 5) ?hd (cs := #[.int .i64 0, .slice none 0 0, .slice none 0 0]) (t := 30) ?hr ?_; (case hd => rfl); (case hg => rfl); (case hr => first | (go_simp; done) | (go_simp; rfl)); intro gb156 hg w32 hbox hb; have BK156 := Aside0.mk (hbox); have GW156 := Aside0.mk ((by rw [hg]; exact (below_size (B1_ HB.out GE153.out)) : w.heap.size ≤ gb156)); have GE156 := Aside0.mk ((by rw [hg]; exact (below_size (B1_ HB.out GE153.out)) : w.heap.size ≤ gb156)); replace HB := Aside0.mk (below_step (B1_ HB.out GE153.out) hb); have NB153_156 := Aside0.mk ((by rw [hg]; exact Nat.ne_of_lt (blk_lt (K_ BK153.out)) : gb153 ≠ gb156)); have NB156_153 := Aside0.mk ((by rw [hg]; exact Nat.ne_of_gt (blk_lt (K_ BK153.out)) : gb156 ≠ gb153)); replace BK153 := kb_ BK153 hb; clear hb hbox hg; have hnb33 := NB156_153.out; have hnc33 := NB153_156.out; obtain ⟨hcz34_0, hcz34_1, hcz34_2, hfz34_0, hfz34_1, hfz34_2⟩ := box3_ BK156.out))
         go_roundg k2
         case measure => have := HJ1.out; have := HK2.out; omega
         case rel => exact ⟨(false), (wrap64 (x51_2 + 1)), q_, q_, H', ⟨by have := HJ1.out; have := HK2.out; omega⟩, ⟨by (with_reducible repeat (first | refine blk_drewN ?_ _ | refine blk_drew ?_ | refine blk_alloc ?_ _)); refine blk_far ?_ NB153_156.out _; (with_reducible repeat (first | refine blk_drewN ?_ _ | refine blk_drew ?_ | refine blk_alloc ?_ _)); refine blk_far ?_ NB153_156.out _; (with_reducible repeat (first | refine blk_drewN ?_ _ | refine blk_drew ?_ | refine blk_alloc ?_ _)); refine blk_far ?_ NB153_156.out _; (with_reducible repeat (first | refine blk_drewN ?_ _ | refine blk_drew ?_ | refine blk_alloc ?_ _)); exact BK153.out⟩, ⟨B2_ HB.out GE153.out GE156.out⟩⟩
       ·rw [if_neg c25] at H
        exact absurd H (by simp)
      ·rw [if_neg c24] at H
       exact absurd H (by simp)
     ·rw [if_neg c23] at H
      have c23b0 : decide (x51_2 < (l0_2.length : Int)) = false := decide_eq_false c23
      clear c23
      obtain rfl := Option.some.inj H
      go_wp2
      go_ret
      exact ⟨er_, B1_ HB.out GE153.out⟩

/-! ### impl_IsValidType: function 23 -/
def impl_IsValidType.f (k : Nat) (a0_0 : Int) (l0_1 : List ByteArray) (l0_2 : List (S30)) : Option (Bool) := (impl_SizeOfType.f k a0_0 l0_1 l0_2).bind fun t159 => (if t159 ≤ 30 then ((impl_DepthOfType.f k a0_0 l0_1 l0_2).bind fun t160 => (if t160 ≤ 8 then ((impl_typeFormed.f k a0_0 l0_1 l0_2).bind fun t161 => (some t161)) else (some false))) else (some false))
theorem impl_IsValidType.mono : ∀ a0 a1 a2 k, LeO (impl_IsValidType.f k a0 a1 a2) (impl_IsValidType.f (k + 1) a0 a1 a2) := by
 intro a0 a1 a2 k
 unfold impl_IsValidType.f
 repeat' first
   | (with_reducible exact impl_DepthOfType.mono _ _ _ _)
   | (with_reducible exact impl_SizeOfType.mono _ _ _ _)
   | (with_reducible exact impl_typeFormed.mono _ _ _ _)
   | (with_reducible exact LeO.refl _)
   | (with_reducible exact LeO.none _)
   | (with_reducible refine LeO.ite ?_ ?_)
   | (with_reducible refine LeO.bind ?_ (fun _ => ?_))
   | exact impl_DepthOfType.mono _ _ _ _
   | exact impl_SizeOfType.mono _ _ _ _
   | exact impl_typeFormed.mono _ _ _ _
   | exact LeO.none _
   | refine LeO.ite ?_ ?_
   | refine LeO.bind ?_ (fun _ => ?_)
set_option maxHeartbeats 8000000 in
set_option maxRecDepth 100000 in
theorem impl_IsValidType.calls (k : Nat) (a0_0 : Int) (A0_1 : Option Addr) (c0_1 : Nat) (l0_1 : List ByteArray) (A0_2 : Option Addr) (c0_2 : Nat) (l0_2 : List (S30)) (r : Bool) (w : World) (hr0_1 : Kd.C Kd.string w A0_1 l0_1.length l0_1) (hc0_1 : l0_1.length ≤ c0_1) (hr0_2 : Kd.C k30 w A0_2 l0_2.length l0_2) (hc0_2 : l0_2.length ≤ c0_2) (h : impl_IsValidType.f k a0_0 l0_1 l0_2 = some r) :
  Calls Try.prog 23 #[.agg #[.int .i64 a0_0, .slice A0_1 l0_1.length c0_1, .slice A0_2 l0_2.length c0_2]] w fun e w' => e = .returned (.bool r) ∧ Below w.heap.size w w' := by
 have hu30 := Try.underlying30
 have HR0_1 := Aside0.mk hr0_1
 have HC0_1 := Aside0.mk hc0_1
 clear hr0_1 hc0_1
 have HR0_2 := Aside0.mk hr0_2
 have HC0_2 := Aside0.mk hc0_2
 clear hr0_2 hc0_2
 have HB := Aside0.mk (Below.refl w.heap.size w)
 have H : ((impl_SizeOfType.f k a0_0 l0_1 l0_2).bind fun t159 => (if t159 ≤ 30 then ((impl_DepthOfType.f k a0_0 l0_1 l0_2).bind fun t160 => (if t160 ≤ 8 then ((impl_typeFormed.f k a0_0 l0_1 l0_2).bind fun t161 => (some t161)) else (some false))) else (some false))) = some r := h
 clear h
 replace H := Option.bind_eq_some_iff.mp H
 obtain ⟨t159, A20, H⟩ := H
 replace H : (if t159 ≤ 30 then ((impl_DepthOfType.f k a0_0 l0_1 l0_2).bind fun t160 => (if t160 ≤ 8 then ((impl_typeFormed.f k a0_0 l0_1 l0_2).bind fun t161 => (some t161)) else (some false))) else (some false)) = some r := H
 have A2 := Aside0.mk A20
 clear A20
 by_cases c3 : t159 ≤ 30
 ·rw [if_pos c3] at H
  have c3b0 : decide (t159 ≤ 30) = true := decide_eq_true c3
  clear c3
  replace H := Option.bind_eq_some_iff.mp H
  obtain ⟨t160, A40, H⟩ := H
  replace H : (if t160 ≤ 8 then ((impl_typeFormed.f k a0_0 l0_1 l0_2).bind fun t161 => (some t161)) else (some false)) = some r := H
  have A4 := Aside0.mk A40
  clear A40
  by_cases c5 : t160 ≤ 8
  ·rw [if_pos c5] at H
   have c5b0 : decide (t160 ≤ 8) = true := decide_eq_true c5
   clear c5
   replace H := Option.bind_eq_some_iff.mp H
   obtain ⟨t161, A60, H⟩ := H
   replace H : (some t161) = some r := H
   have A6 := Aside0.mk A60
   clear A60
   obtain rfl := Option.some.inj H
   go_enter Try.func23, Try.ntmps23
   go_wp2_with (first | ((with_reducible refine gate_dst (N := 1) rfl ?_); refine box_event ?hg (N := 1) ?hd (cs := #[.int .i64 a0_0, .slice A0_1 l0_1.length c0_1, .slice A0_2 l0_2.length c0_2]) (t := 30) ?hr ?_; (case hd => rfl); (case hg => rfl); (case hr => first | (go_simp; done) | (go_simp; rfl)); intro gb158 hg w7 hbox hb; have BK158 := Aside0.mk (hbox); have GW158 := Aside0.mk ((by rw [hg]; exact (below_size (B0_ HB.out)) : w.heap.size ≤ gb158)); have GE158 := Aside0.mk ((by rw [hg]; exact (below_size (B0_ HB.out)) : w.heap.size ≤ gb158)); replace HB := Aside0.mk (below_step (B0_ HB.out) hb); clear hb hbox hg; obtain ⟨hcz8_0, hcz8_1, hcz8_2, hfz8_0, hfz8_1, hfz8_2⟩ := box3_ BK158.out) | ((with_reducible refine gate_callee (f := 16) rfl ?_); refine goesL_ (some 4) rfl rfl Try.func16 (by kernel_rfl) rfl #[.agg #[.int .i64 a0_0, .slice A0_1 l0_1.length c0_1, .slice A0_2 l0_2.length c0_2]] rfl ma_ ?_; (with_reducible refine (impl_SizeOfType.calls k a0_0 _ _ l0_1 _ _ l0_2 t159 _ ?side1 ?side2 ?side3 ?side4 A2.out).mono ?_); (case side1 => exact C_ (Kd.C_below HR0_1.out HB.out)); (case side2 => exact HC0_1.out); (case side3 => exact C_ (Kd.C_below HR0_2.out HB.out)); (case side4 => exact HC0_2.out); rintro e w9 ⟨rfl, hb⟩; refine ⟨_, rfl, ?_⟩; replace BK158 := kb_ BK158 hb; replace HB := Aside0.mk (below_step (B1_ HB.out GE158.out) hb); (try clear hb); (try clear hb2); (try clear hk); (try clear hi); obtain ⟨hcz10_0, hcz10_1, hcz10_2, hfz10_0, hfz10_1, hfz10_2⟩ := box3_ BK158.out) | (go_at_call 19; (with_reducible refine (impl_DepthOfType.calls k a0_0 _ _ l0_1 _ _ l0_2 t160 _ ?side1 ?side2 ?side3 ?side4 A4.out).mono ?_); (case side1 => exact C_ (Kd.C_below HR0_1.out HB.out)); (case side2 => exact HC0_1.out); (case side3 => exact C_ (Kd.C_below HR0_2.out HB.out)); (case side4 => exact HC0_2.out); rintro e w11 ⟨rfl, hb⟩; replace BK158 := kb_ BK158 hb; replace HB := Aside0.mk (below_step (B1_ HB.out GE158.out) hb); (try clear hb); (try clear hb2); (try clear hk); (try clear hi); obtain ⟨hcz12_0, hcz12_1, hcz12_2, hfz12_0, hfz12_1, hfz12_2⟩ := box3_ BK158.out) | (go_at_call 51; (with_reducible refine (impl_typeFormed.calls k a0_0 _ _ l0_1 _ _ l0_2 t161 _ ?side1 ?side2 ?side3 ?side4 A6.out).mono ?_); (case side1 => exact C_ (Kd.C_below HR0_1.out HB.out)); (case side2 => exact HC0_1.out); (case side3 => exact C_ (Kd.C_below HR0_2.out HB.out)); (case side4 => exact HC0_2.out); rintro e w13 ⟨rfl, hb⟩; replace BK158 := kb_ BK158 hb; replace HB := Aside0.mk (below_step (B1_ HB.out GE158.out) hb); (try clear hb); (try clear hb2); (try clear hk); (try clear hi)))
   go_ret
   exact ⟨er_, B1_ HB.out GE158.out⟩
  ·rw [if_neg c5] at H
   have c5b0 : decide (t160 ≤ 8) = false := decide_eq_false c5
   clear c5
   obtain rfl := Option.some.inj H
   go_enter Try.func23, Try.ntmps23
   go_wp2_with (first | ((with_reducible refine gate_dst (N := 1) rfl ?_); refine box_event ?hg (N := 1) ?hd (cs := #[.int .i64 a0_0, .slice A0_1 l0_1.length c0_1, .slice A0_2 l0_2.length c0_2]) (t := 30) ?hr ?_; (case hd => rfl); (case hg => rfl); (case hr => first | (go_simp; done) | (go_simp; rfl)); intro gb158 hg w14 hbox hb; have BK158 := Aside0.mk (hbox); have GW158 := Aside0.mk ((by rw [hg]; exact (below_size (B0_ HB.out)) : w.heap.size ≤ gb158)); have GE158 := Aside0.mk ((by rw [hg]; exact (below_size (B0_ HB.out)) : w.heap.size ≤ gb158)); replace HB := Aside0.mk (below_step (B0_ HB.out) hb); clear hb hbox hg; obtain ⟨hcz15_0, hcz15_1, hcz15_2, hfz15_0, hfz15_1, hfz15_2⟩ := box3_ BK158.out) | ((with_reducible refine gate_callee (f := 16) rfl ?_); refine goesL_ (some 4) rfl rfl Try.func16 (by kernel_rfl) rfl #[.agg #[.int .i64 a0_0, .slice A0_1 l0_1.length c0_1, .slice A0_2 l0_2.length c0_2]] rfl ma_ ?_; (with_reducible refine (impl_SizeOfType.calls k a0_0 _ _ l0_1 _ _ l0_2 t159 _ ?side1 ?side2 ?side3 ?side4 A2.out).mono ?_); (case side1 => exact C_ (Kd.C_below HR0_1.out HB.out)); (case side2 => exact HC0_1.out); (case side3 => exact C_ (Kd.C_below HR0_2.out HB.out)); (case side4 => exact HC0_2.out); rintro e w16 ⟨rfl, hb⟩; refine ⟨_, rfl, ?_⟩; replace BK158 := kb_ BK158 hb; replace HB := Aside0.mk (below_step (B1_ HB.out GE158.out) hb); (try clear hb); (try clear hb2); (try clear hk); (try clear hi); obtain ⟨hcz17_0, hcz17_1, hcz17_2, hfz17_0, hfz17_1, hfz17_2⟩ := box3_ BK158.out) | (go_at_call 19; (with_reducible refine (impl_DepthOfType.calls k a0_0 _ _ l0_1 _ _ l0_2 t160 _ ?side1 ?side2 ?side3 ?side4 A4.out).mono ?_); (case side1 => exact C_ (Kd.C_below HR0_1.out HB.out)); (case side2 => exact HC0_1.out); (case side3 => exact C_ (Kd.C_below HR0_2.out HB.out)); (case side4 => exact HC0_2.out); rintro e w18 ⟨rfl, hb⟩; replace BK158 := kb_ BK158 hb; replace HB := Aside0.mk (below_step (B1_ HB.out GE158.out) hb); (try clear hb); (try clear hb2); (try clear hk); (try clear hi)))
   go_ret
   exact ⟨er_, B1_ HB.out GE158.out⟩
 ·rw [if_neg c3] at H
  have c3b0 : decide (t159 ≤ 30) = false := decide_eq_false c3
  clear c3
  obtain rfl := Option.some.inj H
  go_enter Try.func23, Try.ntmps23
  go_wp2_with (first | ((with_reducible refine gate_dst (N := 1) rfl ?_); refine box_event ?hg (N := 1) ?hd (cs := #[.int .i64 a0_0, .slice A0_1 l0_1.length c0_1, .slice A0_2 l0_2.length c0_2]) (t := 30) ?hr ?_; (case hd => rfl); (case hg => rfl); (case hr => first | (go_simp; done) | (go_simp; rfl)); intro gb158 hg w19 hbox hb; have BK158 := Aside0.mk (hbox); have GW158 := Aside0.mk ((by rw [hg]; exact (below_size (B0_ HB.out)) : w.heap.size ≤ gb158)); have GE158 := Aside0.mk ((by rw [hg]; exact (below_size (B0_ HB.out)) : w.heap.size ≤ gb158)); replace HB := Aside0.mk (below_step (B0_ HB.out) hb); clear hb hbox hg; obtain ⟨hcz20_0, hcz20_1, hcz20_2, hfz20_0, hfz20_1, hfz20_2⟩ := box3_ BK158.out) | ((with_reducible refine gate_callee (f := 16) rfl ?_); refine goesL_ (some 4) rfl rfl Try.func16 (by kernel_rfl) rfl #[.agg #[.int .i64 a0_0, .slice A0_1 l0_1.length c0_1, .slice A0_2 l0_2.length c0_2]] rfl ma_ ?_; (with_reducible refine (impl_SizeOfType.calls k a0_0 _ _ l0_1 _ _ l0_2 t159 _ ?side1 ?side2 ?side3 ?side4 A2.out).mono ?_); (case side1 => exact C_ (Kd.C_below HR0_1.out HB.out)); (case side2 => exact HC0_1.out); (case side3 => exact C_ (Kd.C_below HR0_2.out HB.out)); (case side4 => exact HC0_2.out); rintro e w21 ⟨rfl, hb⟩; refine ⟨_, rfl, ?_⟩; replace BK158 := kb_ BK158 hb; replace HB := Aside0.mk (below_step (B1_ HB.out GE158.out) hb); (try clear hb); (try clear hb2); (try clear hk); (try clear hi)))
  go_ret
  exact ⟨er_, B1_ HB.out GE158.out⟩

end Go.Proofs.Ytingaflikkeefaa.XB
