-- Written by myprint.py, a program of this session, which runs the kit's printer with changes of its own. Lean checks it.
import Derived.Test.YtmelflbbeecjfaaXBx0
import Derived.Test.YtmelflbbeecjfaaXBx10
import Derived.Test.YtmelflbbeecjfaaXBx11
import Derived.Test.YtmelflbbeecjfaaSq
namespace Go.Proofs.Ytmelflbbeecjfaa.XB
open Go.RowKit Go.Proofs.YtmelflbbeecjfaaW.PrintWords Go.Proofs.YtmelflbbeecjfaaW.PrintLast Go.Proofs.YtmelflbbeecjfaaW.PrintMore Go.Proofs.Ytmelflbbeecjfaa.Sq
attribute [local go_sem] max2_int min2_int max_two min_two max_three min_three max_four min_four   -- for this text's walks alone
set_option linter.unusedVariables false
set_option linter.unusedSimpArgs false

/-! ### impl_valueFormed: function 54 -/
mutual
def impl_valueFormed.j0 : Nat → Bool → Int → Int → ByteArray → List ByteArray → List (S30) → Option (Bool)
 | 0, _, _, _, _, _, _ => none
 | k + 1, x3, x243000, x243001, x243002, x243003, x243004 => impl_valueFormed.l0 k x3 x243004 (x243004.length : Int) 0
def impl_valueFormed.l0 : Nat → Bool → List (S30) → Int → Int → Option (Bool)
 | 0, _, _, _, _ => none
 | k + 1, x3, x115, x116, x117 => if x117 < x116 then (if 0 ≤ x117 then (if x117 < (x115.length : Int) then (if x3 = true then ((impl_valueFormed.f k ((rd_T30 x115 x117).f0) ((rd_T30 x115 x117).f1) ((rd_T30 x115 x117).f2) ((rd_T30 x115 x117).f3) ((rd_T30 x115 x117).f4)).bind fun t247 => (impl_valueFormed.l0 k t247 x115 x116 (wrap64 (x117 + 1)))) else (impl_valueFormed.l0 k false x115 x116 (wrap64 (x117 + 1)))) else (none)) else (none)) else (some x3)
def impl_valueFormed.f : Nat → Int → Int → ByteArray → List ByteArray → List (S30) → Option (Bool)
 | 0, _, _, _, _, _ => none
 | k + 1, a0_0, a0_1, a0_2, l0_3, l0_4 => if a0_0 = 1 then (if a0_2.toList = ([] : List UInt8) then (if (l0_3.length : Int) = 0 then (impl_valueFormed.j0 k ((l0_4.length : Int) == 0) a0_0 a0_1 a0_2 l0_3 l0_4) else (impl_valueFormed.j0 k false a0_0 a0_1 a0_2 l0_3 l0_4)) else (impl_valueFormed.j0 k false a0_0 a0_1 a0_2 l0_3 l0_4)) else (if a0_0 = 2 then (if a0_1 = 0 then (if a0_2.toList = ([] : List UInt8) then (if (l0_3.length : Int) = 0 then (impl_valueFormed.j0 k ((l0_4.length : Int) == 0) a0_0 a0_1 a0_2 l0_3 l0_4) else (impl_valueFormed.j0 k false a0_0 a0_1 a0_2 l0_3 l0_4)) else (impl_valueFormed.j0 k false a0_0 a0_1 a0_2 l0_3 l0_4)) else (if a0_1 = 1 then (if a0_2.toList = ([] : List UInt8) then (if (l0_3.length : Int) = 0 then (impl_valueFormed.j0 k ((l0_4.length : Int) == 0) a0_0 a0_1 a0_2 l0_3 l0_4) else (impl_valueFormed.j0 k false a0_0 a0_1 a0_2 l0_3 l0_4)) else (impl_valueFormed.j0 k false a0_0 a0_1 a0_2 l0_3 l0_4)) else (impl_valueFormed.j0 k false a0_0 a0_1 a0_2 l0_3 l0_4))) else (if a0_0 = 3 then (if a0_1 = 0 then (if a0_2.toList = ([] : List UInt8) then (if (l0_3.length : Int) = (l0_4.length : Int) then ((impl_labelsOk.f k l0_3).bind fun t243 => (impl_valueFormed.j0 k t243 a0_0 a0_1 a0_2 l0_3 l0_4)) else (impl_valueFormed.j0 k false a0_0 a0_1 a0_2 l0_3 l0_4)) else (impl_valueFormed.j0 k false a0_0 a0_1 a0_2 l0_3 l0_4)) else (impl_valueFormed.j0 k false a0_0 a0_1 a0_2 l0_3 l0_4)) else (if a0_0 = 4 then (if a0_1 = 0 then ((impl_IsName.f k a0_2).bind fun t244 => (if t244 = true then (if (l0_3.length : Int) = 0 then (impl_valueFormed.j0 k ((l0_4.length : Int) == 1) a0_0 a0_1 a0_2 l0_3 l0_4) else (impl_valueFormed.j0 k false a0_0 a0_1 a0_2 l0_3 l0_4)) else (impl_valueFormed.j0 k false a0_0 a0_1 a0_2 l0_3 l0_4))) else (impl_valueFormed.j0 k false a0_0 a0_1 a0_2 l0_3 l0_4)) else (if a0_0 = 5 then (if a0_1 = 0 then (if a0_2.toList = ([] : List UInt8) then (impl_valueFormed.j0 k ((l0_3.length : Int) == 0) a0_0 a0_1 a0_2 l0_3 l0_4) else (impl_valueFormed.j0 k false a0_0 a0_1 a0_2 l0_3 l0_4)) else (impl_valueFormed.j0 k false a0_0 a0_1 a0_2 l0_3 l0_4)) else (impl_valueFormed.j0 k false a0_0 a0_1 a0_2 l0_3 l0_4)))))
end
theorem impl_valueFormed.mono_l : ∀ k, (∀ y0 y1 y2 y3 y4, LeO (impl_valueFormed.f k y0 y1 y2 y3 y4) (impl_valueFormed.f (k + 1) y0 y1 y2 y3 y4)) ∧ (∀ y0 y1 y2 y3 y4 y5, LeO (impl_valueFormed.j0 k y0 y1 y2 y3 y4 y5) (impl_valueFormed.j0 (k + 1) y0 y1 y2 y3 y4 y5)) ∧ (∀ y0 y1 y2 y3, LeO (impl_valueFormed.l0 k y0 y1 y2 y3) (impl_valueFormed.l0 (k + 1) y0 y1 y2 y3))
 | 0 => ⟨fun _ _ _ _ _ r h => by simp [impl_valueFormed.f] at h, fun _ _ _ _ _ _ r h => by simp [impl_valueFormed.j0] at h, fun _ _ _ _ r h => by simp [impl_valueFormed.l0] at h⟩
 | k + 1 => by
  obtain ⟨ih0, ih1, ih2⟩ := impl_valueFormed.mono_l k
  refine ⟨?_, ?_, ?_⟩
  ·intro y0 y1 y2 y3 y4
   unfold impl_valueFormed.f
   repeat' first
   | (with_reducible exact ih0 _ _ _ _ _)
   | (with_reducible exact ih1 _ _ _ _ _ _)
   | (with_reducible exact ih2 _ _ _ _)
   | (with_reducible exact impl_IsName.mono _ _)
   | (with_reducible exact impl_labelsOk.mono _ _)
   | (with_reducible exact LeO.refl _)
   | (with_reducible exact LeO.none _)
   | (with_reducible refine LeO.ite ?_ ?_)
   | (with_reducible refine LeO.bind ?_ (fun _ => ?_))
   | exact ih0 _ _ _ _ _
   | exact ih1 _ _ _ _ _ _
   | exact ih2 _ _ _ _
   | exact impl_IsName.mono _ _
   | exact impl_labelsOk.mono _ _
   | exact LeO.none _
   | refine LeO.ite ?_ ?_
   | refine LeO.bind ?_ (fun _ => ?_)
  ·intro y0 y1 y2 y3 y4 y5
   unfold impl_valueFormed.j0
   repeat' first
   | (with_reducible exact ih0 _ _ _ _ _)
   | (with_reducible exact ih1 _ _ _ _ _ _)
   | (with_reducible exact ih2 _ _ _ _)
   | (with_reducible exact impl_IsName.mono _ _)
   | (with_reducible exact impl_labelsOk.mono _ _)
   | (with_reducible exact LeO.refl _)
   | (with_reducible exact LeO.none _)
   | (with_reducible refine LeO.ite ?_ ?_)
   | (with_reducible refine LeO.bind ?_ (fun _ => ?_))
   | exact ih0 _ _ _ _ _
   | exact ih1 _ _ _ _ _ _
   | exact ih2 _ _ _ _
   | exact impl_IsName.mono _ _
   | exact impl_labelsOk.mono _ _
   | exact LeO.none _
   | refine LeO.ite ?_ ?_
   | refine LeO.bind ?_ (fun _ => ?_)
  ·intro y0 y1 y2 y3
   unfold impl_valueFormed.l0
   repeat' first
   | (with_reducible exact ih0 _ _ _ _ _)
   | (with_reducible exact ih1 _ _ _ _ _ _)
   | (with_reducible exact ih2 _ _ _ _)
   | (with_reducible exact impl_IsName.mono _ _)
   | (with_reducible exact impl_labelsOk.mono _ _)
   | (with_reducible exact LeO.refl _)
   | (with_reducible exact LeO.none _)
   | (with_reducible refine LeO.ite ?_ ?_)
   | (with_reducible refine LeO.bind ?_ (fun _ => ?_))
   | exact ih0 _ _ _ _ _
   | exact ih1 _ _ _ _ _ _
   | exact ih2 _ _ _ _
   | exact impl_IsName.mono _ _
   | exact impl_labelsOk.mono _ _
   | exact LeO.none _
   | refine LeO.ite ?_ ?_
   | refine LeO.bind ?_ (fun _ => ?_)
theorem impl_valueFormed.mono : ∀ a0 a1 a2 a3 a4 k, LeO (impl_valueFormed.f k a0 a1 a2 a3 a4) (impl_valueFormed.f (k + 1) a0 a1 a2 a3 a4) := by
 intro a0 a1 a2 a3 a4 k
 obtain ⟨ih0, ih1, ih2⟩ := impl_valueFormed.mono_l k
 exact ih0 a0 a1 a2 a3 a4
set_option maxHeartbeats 8000000 in
set_option maxRecDepth 100000 in
theorem impl_valueFormed.calls (k : Nat) : ∀ (a0_0 : Int) (a0_1 : Int) (a0_2 : ByteArray) (A0_3 : Option Addr) (c0_3 : Nat) (l0_3 : List ByteArray) (A0_4 : Option Addr) (c0_4 : Nat) (l0_4 : List (S30)) (r : Bool) (w : World) (hr0_3 : Kd.C Kd.string w A0_3 l0_3.length l0_3) (hc0_3 : l0_3.length ≤ c0_3) (hr0_4 : Kd.C k30 w A0_4 l0_4.length l0_4) (hc0_4 : l0_4.length ≤ c0_4) (h : impl_valueFormed.f k a0_0 a0_1 a0_2 l0_3 l0_4 = some r),
  Calls Try.prog 54 #[.agg #[.int .i64 a0_0, .int .i64 a0_1, .string a0_2, .slice A0_3 l0_3.length c0_3, .slice A0_4 l0_4.length c0_4]] w fun e w' => e = .returned (.bool r) ∧ Below w.heap.size w w' := by
 induction k using Nat.strongRecOn with
 | _ k ih =>
 intro a0_0 a0_1 a0_2 A0_3 c0_3 l0_3 A0_4 c0_4 l0_4 r w hr0_3 hc0_3 hr0_4 hc0_4 h
 cases k with
 | zero => exact absurd h (by simp [impl_valueFormed.f])
 | succ k =>
 simp only [impl_valueFormed.f] at h
 have hu30 := Try.underlying30
 have HR0_3 := Aside0.mk hr0_3
 have HC0_3 := Aside0.mk hc0_3
 clear hr0_3 hc0_3
 have HR0_4 := Aside0.mk hr0_4
 have HC0_4 := Aside0.mk hc0_4
 clear hr0_4 hc0_4
 have HB := Aside0.mk (Below.refl w.heap.size w)
 have H : (if a0_0 = 1 then (if a0_2.toList = ([] : List UInt8) then (if (l0_3.length : Int) = 0 then (impl_valueFormed.j0 k ((l0_4.length : Int) == 0) a0_0 a0_1 a0_2 l0_3 l0_4) else (impl_valueFormed.j0 k false a0_0 a0_1 a0_2 l0_3 l0_4)) else (impl_valueFormed.j0 k false a0_0 a0_1 a0_2 l0_3 l0_4)) else (if a0_0 = 2 then (if a0_1 = 0 then (if a0_2.toList = ([] : List UInt8) then (if (l0_3.length : Int) = 0 then (impl_valueFormed.j0 k ((l0_4.length : Int) == 0) a0_0 a0_1 a0_2 l0_3 l0_4) else (impl_valueFormed.j0 k false a0_0 a0_1 a0_2 l0_3 l0_4)) else (impl_valueFormed.j0 k false a0_0 a0_1 a0_2 l0_3 l0_4)) else (if a0_1 = 1 then (if a0_2.toList = ([] : List UInt8) then (if (l0_3.length : Int) = 0 then (impl_valueFormed.j0 k ((l0_4.length : Int) == 0) a0_0 a0_1 a0_2 l0_3 l0_4) else (impl_valueFormed.j0 k false a0_0 a0_1 a0_2 l0_3 l0_4)) else (impl_valueFormed.j0 k false a0_0 a0_1 a0_2 l0_3 l0_4)) else (impl_valueFormed.j0 k false a0_0 a0_1 a0_2 l0_3 l0_4))) else (if a0_0 = 3 then (if a0_1 = 0 then (if a0_2.toList = ([] : List UInt8) then (if (l0_3.length : Int) = (l0_4.length : Int) then ((impl_labelsOk.f k l0_3).bind fun t243 => (impl_valueFormed.j0 k t243 a0_0 a0_1 a0_2 l0_3 l0_4)) else (impl_valueFormed.j0 k false a0_0 a0_1 a0_2 l0_3 l0_4)) else (impl_valueFormed.j0 k false a0_0 a0_1 a0_2 l0_3 l0_4)) else (impl_valueFormed.j0 k false a0_0 a0_1 a0_2 l0_3 l0_4)) else (if a0_0 = 4 then (if a0_1 = 0 then ((impl_IsName.f k a0_2).bind fun t244 => (if t244 = true then (if (l0_3.length : Int) = 0 then (impl_valueFormed.j0 k ((l0_4.length : Int) == 1) a0_0 a0_1 a0_2 l0_3 l0_4) else (impl_valueFormed.j0 k false a0_0 a0_1 a0_2 l0_3 l0_4)) else (impl_valueFormed.j0 k false a0_0 a0_1 a0_2 l0_3 l0_4))) else (impl_valueFormed.j0 k false a0_0 a0_1 a0_2 l0_3 l0_4)) else (if a0_0 = 5 then (if a0_1 = 0 then (if a0_2.toList = ([] : List UInt8) then (impl_valueFormed.j0 k ((l0_3.length : Int) == 0) a0_0 a0_1 a0_2 l0_3 l0_4) else (impl_valueFormed.j0 k false a0_0 a0_1 a0_2 l0_3 l0_4)) else (impl_valueFormed.j0 k false a0_0 a0_1 a0_2 l0_3 l0_4)) else (impl_valueFormed.j0 k false a0_0 a0_1 a0_2 l0_3 l0_4)))))) = some r := h
 clear h
 have HC2 := Aside0.mk H
 clear H
 go_enter Try.func54, Try.ntmps54
 go_upto_block 0 with (first | ((with_reducible refine gate_dst (N := 1) rfl ?_); (try (refine gate_guard (by rfl) ?_; dsimp only)); refine box_event ?hg (N := 1) ?hd (cs := #[.int .i64 a0_0, .int .i64 a0_1, .string a0_2, .slice A0_3 l0_3.length c0_3, .slice A0_4 l0_4.length c0_4]) (t := 30) ?hr ?_; (case hd => rfl); (case hg => rfl); (case hr => first | (go_simp; done) | (go_simp; rfl)); intro gb242 hg w3 hbox hb; have BK242 := Aside0.mk (hbox); have GW242 := Aside0.mk ((by rw [hg]; exact (below_size (B0_ HB.out)) : w.heap.size ≤ gb242)); have GE242 := Aside0.mk ((by rw [hg]; exact (below_size (B0_ HB.out)) : w.heap.size ≤ gb242)); replace HB := Aside0.mk (below_step (B0_ HB.out) hb); clear hb hbox hg; obtain ⟨hcz4_0, hcz4_1, hcz4_2, hcz4_3, hcz4_4, hfz4_0, hfz4_1, hfz4_2, hfz4_3, hfz4_4⟩ := box5_ BK242.out))
 (try simp only [Act.put, List.setIfInBounds_toArray, List.set_cons_zero, List.set_cons_succ])
 go_cut [3] (fun v3 wc => ∃ (kq : Nat) (x3_1 : Bool), v3 = .bool x3_1 ∧ Aside0 (impl_valueFormed.j0 kq x3_1 a0_0 a0_1 a0_2 l0_3 l0_4 = some r) ∧ Aside0 (kq ≤ k) ∧ Aside0 (wc.heap[gb242]? = some (.cells #[.int .i64 a0_0, .int .i64 a0_1, .string a0_2, (.slice A0_3 l0_3.length c0_3), (.slice A0_4 l0_4.length c0_4)] 30 (0, 0))) ∧ Aside0 (Below w.heap.size w wc))
 case first =>
  have H := HC2.out
  clear HC2
  by_cases c5 : a0_0 = 1
  ·rw [if_pos c5] at H
   have c5b0 : (a0_0 == 1) = true := beq_iff_eq.mpr c5
   have c5b1 : (a0_0 != 1) = false := bne_eq_false_iff_eq.mpr c5
   clear c5
   (first | rw [c5b0] | (simp only [i64_w, i32_w]; rw [c5b0]) | skip)
   by_cases c6 : a0_2.toList = ([] : List UInt8)
   ·rw [if_pos c6] at H
    have c6b0 : (a0_2.toList == ([] : List UInt8)) = true := beq_iff_eq.mpr c6
    have c6b1 : (a0_2.toList != ([] : List UInt8)) = false := bne_eq_false_iff_eq.mpr c6
    clear c6
    by_cases c7 : (l0_3.length : Int) = 0
    ·rw [if_pos c7] at H
     have c7b0 : ((l0_3.length : Int) == 0) = true := beq_iff_eq.mpr c7
     have c7b1 : ((l0_3.length : Int) != 0) = false := bne_eq_false_iff_eq.mpr c7
     clear c7
     have H' := Aside0.mk H
     clear H
     obtain ⟨hcz8_0, hcz8_1, hcz8_2, hcz8_3, hcz8_4, hfz8_0, hfz8_1, hfz8_2, hfz8_3, hfz8_4⟩ := box5_ BK242.out
     go_wp2
     go_meet
     case rel => exact ⟨_, (((l0_4.length : Int) == 0)), q_, H', ⟨le_⟩, ⟨K_ BK242.out⟩, ⟨B1_ HB.out GE242.out⟩⟩
    ·rw [if_neg c7] at H
     have c7b0 : ((l0_3.length : Int) == 0) = false := beq_eq_false_iff_ne.mpr c7
     have c7b1 : ((l0_3.length : Int) != 0) = true := bne_iff_ne.mpr c7
     have c7b2 : ¬ (l0_3 = []) := fun h_ => c7 (by rw [h_]; rfl)
     have H' := Aside0.mk H
     clear H
     obtain ⟨hcz9_0, hcz9_1, hcz9_2, hcz9_3, hcz9_4, hfz9_0, hfz9_1, hfz9_2, hfz9_3, hfz9_4⟩ := box5_ BK242.out
     go_wp2
     go_meet
     case rel => exact ⟨_, (false), q_, H', ⟨le_⟩, ⟨K_ BK242.out⟩, ⟨B1_ HB.out GE242.out⟩⟩
   ·rw [if_neg c6] at H
    have c6b0 : (a0_2.toList == ([] : List UInt8)) = false := beq_eq_false_iff_ne.mpr c6
    have c6b1 : (a0_2.toList != ([] : List UInt8)) = true := bne_iff_ne.mpr c6
    have H' := Aside0.mk H
    clear H
    obtain ⟨hcz10_0, hcz10_1, hcz10_2, hcz10_3, hcz10_4, hfz10_0, hfz10_1, hfz10_2, hfz10_3, hfz10_4⟩ := box5_ BK242.out
    go_wp2
    go_meet
    case rel => exact ⟨_, (false), q_, H', ⟨le_⟩, ⟨K_ BK242.out⟩, ⟨B1_ HB.out GE242.out⟩⟩
  ·rw [if_neg c5] at H
   have c5b0 : (a0_0 == 1) = false := beq_eq_false_iff_ne.mpr c5
   have c5b1 : (a0_0 != 1) = true := bne_iff_ne.mpr c5
   (first | rw [c5b0] | (simp only [i64_w, i32_w]; rw [c5b0]) | skip)
   by_cases c11 : a0_0 = 2
   ·rw [if_pos c11] at H
    have c11b0 : (a0_0 == 2) = true := beq_iff_eq.mpr c11
    have c11b1 : (a0_0 != 2) = false := bne_eq_false_iff_eq.mpr c11
    clear c11
    by_cases c12 : a0_1 = 0
    ·rw [if_pos c12] at H
     have c12b0 : (a0_1 == 0) = true := beq_iff_eq.mpr c12
     have c12b1 : (a0_1 != 0) = false := bne_eq_false_iff_eq.mpr c12
     clear c12
     by_cases c13 : a0_2.toList = ([] : List UInt8)
     ·rw [if_pos c13] at H
      have c13b0 : (a0_2.toList == ([] : List UInt8)) = true := beq_iff_eq.mpr c13
      have c13b1 : (a0_2.toList != ([] : List UInt8)) = false := bne_eq_false_iff_eq.mpr c13
      clear c13
      by_cases c14 : (l0_3.length : Int) = 0
      ·rw [if_pos c14] at H
       have c14b0 : ((l0_3.length : Int) == 0) = true := beq_iff_eq.mpr c14
       have c14b1 : ((l0_3.length : Int) != 0) = false := bne_eq_false_iff_eq.mpr c14
       clear c14
       have H' := Aside0.mk H
       clear H
       obtain ⟨hcz15_0, hcz15_1, hcz15_2, hcz15_3, hcz15_4, hfz15_0, hfz15_1, hfz15_2, hfz15_3, hfz15_4⟩ := box5_ BK242.out
       go_wp2
       go_meet
       case rel => exact ⟨_, (((l0_4.length : Int) == 0)), q_, H', ⟨le_⟩, ⟨K_ BK242.out⟩, ⟨B1_ HB.out GE242.out⟩⟩
      ·rw [if_neg c14] at H
       have c14b0 : ((l0_3.length : Int) == 0) = false := beq_eq_false_iff_ne.mpr c14
       have c14b1 : ((l0_3.length : Int) != 0) = true := bne_iff_ne.mpr c14
       have c14b2 : ¬ (l0_3 = []) := fun h_ => c14 (by rw [h_]; rfl)
       have H' := Aside0.mk H
       clear H
       obtain ⟨hcz16_0, hcz16_1, hcz16_2, hcz16_3, hcz16_4, hfz16_0, hfz16_1, hfz16_2, hfz16_3, hfz16_4⟩ := box5_ BK242.out
       go_wp2
       go_meet
       case rel => exact ⟨_, (false), q_, H', ⟨le_⟩, ⟨K_ BK242.out⟩, ⟨B1_ HB.out GE242.out⟩⟩
     ·rw [if_neg c13] at H
      have c13b0 : (a0_2.toList == ([] : List UInt8)) = false := beq_eq_false_iff_ne.mpr c13
      have c13b1 : (a0_2.toList != ([] : List UInt8)) = true := bne_iff_ne.mpr c13
      have H' := Aside0.mk H
      clear H
      obtain ⟨hcz17_0, hcz17_1, hcz17_2, hcz17_3, hcz17_4, hfz17_0, hfz17_1, hfz17_2, hfz17_3, hfz17_4⟩ := box5_ BK242.out
      go_wp2
      go_meet
      case rel => exact ⟨_, (false), q_, H', ⟨le_⟩, ⟨K_ BK242.out⟩, ⟨B1_ HB.out GE242.out⟩⟩
    ·rw [if_neg c12] at H
     have c12b0 : (a0_1 == 0) = false := beq_eq_false_iff_ne.mpr c12
     have c12b1 : (a0_1 != 0) = true := bne_iff_ne.mpr c12
     by_cases c18 : a0_1 = 1
     ·rw [if_pos c18] at H
      have c18b0 : (a0_1 == 1) = true := beq_iff_eq.mpr c18
      have c18b1 : (a0_1 != 1) = false := bne_eq_false_iff_eq.mpr c18
      clear c18
      by_cases c19 : a0_2.toList = ([] : List UInt8)
      ·rw [if_pos c19] at H
       have c19b0 : (a0_2.toList == ([] : List UInt8)) = true := beq_iff_eq.mpr c19
       have c19b1 : (a0_2.toList != ([] : List UInt8)) = false := bne_eq_false_iff_eq.mpr c19
       clear c19
       by_cases c20 : (l0_3.length : Int) = 0
       ·rw [if_pos c20] at H
        have c20b0 : ((l0_3.length : Int) == 0) = true := beq_iff_eq.mpr c20
        have c20b1 : ((l0_3.length : Int) != 0) = false := bne_eq_false_iff_eq.mpr c20
        clear c20
        have H' := Aside0.mk H
        clear H
        obtain ⟨hcz21_0, hcz21_1, hcz21_2, hcz21_3, hcz21_4, hfz21_0, hfz21_1, hfz21_2, hfz21_3, hfz21_4⟩ := box5_ BK242.out
        go_wp2
        go_meet
        case rel => exact ⟨_, (((l0_4.length : Int) == 0)), q_, H', ⟨le_⟩, ⟨K_ BK242.out⟩, ⟨B1_ HB.out GE242.out⟩⟩
       ·rw [if_neg c20] at H
        have c20b0 : ((l0_3.length : Int) == 0) = false := beq_eq_false_iff_ne.mpr c20
        have c20b1 : ((l0_3.length : Int) != 0) = true := bne_iff_ne.mpr c20
        have c20b2 : ¬ (l0_3 = []) := fun h_ => c20 (by rw [h_]; rfl)
        have H' := Aside0.mk H
        clear H
        obtain ⟨hcz22_0, hcz22_1, hcz22_2, hcz22_3, hcz22_4, hfz22_0, hfz22_1, hfz22_2, hfz22_3, hfz22_4⟩ := box5_ BK242.out
        go_wp2
        go_meet
        case rel => exact ⟨_, (false), q_, H', ⟨le_⟩, ⟨K_ BK242.out⟩, ⟨B1_ HB.out GE242.out⟩⟩
      ·rw [if_neg c19] at H
       have c19b0 : (a0_2.toList == ([] : List UInt8)) = false := beq_eq_false_iff_ne.mpr c19
       have c19b1 : (a0_2.toList != ([] : List UInt8)) = true := bne_iff_ne.mpr c19
       have H' := Aside0.mk H
       clear H
       obtain ⟨hcz23_0, hcz23_1, hcz23_2, hcz23_3, hcz23_4, hfz23_0, hfz23_1, hfz23_2, hfz23_3, hfz23_4⟩ := box5_ BK242.out
       go_wp2
       go_meet
       case rel => exact ⟨_, (false), q_, H', ⟨le_⟩, ⟨K_ BK242.out⟩, ⟨B1_ HB.out GE242.out⟩⟩
     ·rw [if_neg c18] at H
      have c18b0 : (a0_1 == 1) = false := beq_eq_false_iff_ne.mpr c18
      have c18b1 : (a0_1 != 1) = true := bne_iff_ne.mpr c18
      have H' := Aside0.mk H
      clear H
      obtain ⟨hcz24_0, hcz24_1, hcz24_2, hcz24_3, hcz24_4, hfz24_0, hfz24_1, hfz24_2, hfz24_3, hfz24_4⟩ := box5_ BK242.out
      go_wp2
      go_meet
      case rel => exact ⟨_, (false), q_, H', ⟨le_⟩, ⟨K_ BK242.out⟩, ⟨B1_ HB.out GE242.out⟩⟩
   ·rw [if_neg c11] at H
    have c11b0 : (a0_0 == 2) = false := beq_eq_false_iff_ne.mpr c11
    have c11b1 : (a0_0 != 2) = true := bne_iff_ne.mpr c11
    by_cases c25 : a0_0 = 3
    ·rw [if_pos c25] at H
     have c25b0 : (a0_0 == 3) = true := beq_iff_eq.mpr c25
     have c25b1 : (a0_0 != 3) = false := bne_eq_false_iff_eq.mpr c25
     clear c25
     by_cases c26 : a0_1 = 0
     ·rw [if_pos c26] at H
      have c26b0 : (a0_1 == 0) = true := beq_iff_eq.mpr c26
      have c26b1 : (a0_1 != 0) = false := bne_eq_false_iff_eq.mpr c26
      clear c26
      by_cases c27 : a0_2.toList = ([] : List UInt8)
      ·rw [if_pos c27] at H
       have c27b0 : (a0_2.toList == ([] : List UInt8)) = true := beq_iff_eq.mpr c27
       have c27b1 : (a0_2.toList != ([] : List UInt8)) = false := bne_eq_false_iff_eq.mpr c27
       clear c27
       by_cases c28 : (l0_3.length : Int) = (l0_4.length : Int)
       ·rw [if_pos c28] at H
        have c28b0 : ((l0_3.length : Int) == (l0_4.length : Int)) = true := beq_iff_eq.mpr c28
        have c28b1 : ((l0_3.length : Int) != (l0_4.length : Int)) = false := bne_eq_false_iff_eq.mpr c28
        have c28b2 : (l0_3.length == l0_4.length) = true := by first | simpa using c28 | (simp at c28 ⊢; omega)
        clear c28
        replace H := Option.bind_eq_some_iff.mp H
        obtain ⟨t243, A290, H⟩ := H
        replace H : (impl_valueFormed.j0 k t243 a0_0 a0_1 a0_2 l0_3 l0_4) = some r := H
        have A29 := Aside0.mk A290
        clear A290
        have H' := Aside0.mk H
        clear H
        obtain ⟨hcz30_0, hcz30_1, hcz30_2, hcz30_3, hcz30_4, hfz30_0, hfz30_1, hfz30_2, hfz30_3, hfz30_4⟩ := box5_ BK242.out
        go_wp2_with (first | (go_at_call 87; (with_reducible refine (impl_labelsOk.calls k _ _ l0_3 t243 _ ?side1 ?side2 A29.out).mono ?_); (case side1 => exact C_ (Kd.C_below HR0_3.out HB.out)); (case side2 => exact HC0_3.out); rintro e w' ⟨rfl, ⟨nd, rfl⟩⟩))
        go_meet
        case rel => exact ⟨_, (t243), q_, H', ⟨le_⟩, ⟨K_ BK242.out⟩, ⟨B1_ HB.out GE242.out⟩⟩
       ·rw [if_neg c28] at H
        have c28b0 : ((l0_3.length : Int) == (l0_4.length : Int)) = false := beq_eq_false_iff_ne.mpr c28
        have c28b1 : ((l0_3.length : Int) != (l0_4.length : Int)) = true := bne_iff_ne.mpr c28
        have c28b2 : (l0_3.length == l0_4.length) = false := by first | simpa using c28 | (simp at c28 ⊢; omega)
        have H' := Aside0.mk H
        clear H
        obtain ⟨hcz31_0, hcz31_1, hcz31_2, hcz31_3, hcz31_4, hfz31_0, hfz31_1, hfz31_2, hfz31_3, hfz31_4⟩ := box5_ BK242.out
        go_wp2
        go_meet
        case rel => exact ⟨_, (false), q_, H', ⟨le_⟩, ⟨K_ BK242.out⟩, ⟨B1_ HB.out GE242.out⟩⟩
      ·rw [if_neg c27] at H
       have c27b0 : (a0_2.toList == ([] : List UInt8)) = false := beq_eq_false_iff_ne.mpr c27
       have c27b1 : (a0_2.toList != ([] : List UInt8)) = true := bne_iff_ne.mpr c27
       have H' := Aside0.mk H
       clear H
       obtain ⟨hcz32_0, hcz32_1, hcz32_2, hcz32_3, hcz32_4, hfz32_0, hfz32_1, hfz32_2, hfz32_3, hfz32_4⟩ := box5_ BK242.out
       go_wp2
       go_meet
       case rel => exact ⟨_, (false), q_, H', ⟨le_⟩, ⟨K_ BK242.out⟩, ⟨B1_ HB.out GE242.out⟩⟩
     ·rw [if_neg c26] at H
      have c26b0 : (a0_1 == 0) = false := beq_eq_false_iff_ne.mpr c26
      have c26b1 : (a0_1 != 0) = true := bne_iff_ne.mpr c26
      have H' := Aside0.mk H
      clear H
      obtain ⟨hcz33_0, hcz33_1, hcz33_2, hcz33_3, hcz33_4, hfz33_0, hfz33_1, hfz33_2, hfz33_3, hfz33_4⟩ := box5_ BK242.out
      go_wp2
      go_meet
      case rel => exact ⟨_, (false), q_, H', ⟨le_⟩, ⟨K_ BK242.out⟩, ⟨B1_ HB.out GE242.out⟩⟩
    ·rw [if_neg c25] at H
     have c25b0 : (a0_0 == 3) = false := beq_eq_false_iff_ne.mpr c25
     have c25b1 : (a0_0 != 3) = true := bne_iff_ne.mpr c25
     by_cases c34 : a0_0 = 4
     ·rw [if_pos c34] at H
      have c34b0 : (a0_0 == 4) = true := beq_iff_eq.mpr c34
      have c34b1 : (a0_0 != 4) = false := bne_eq_false_iff_eq.mpr c34
      clear c34
      by_cases c35 : a0_1 = 0
      ·rw [if_pos c35] at H
       have c35b0 : (a0_1 == 0) = true := beq_iff_eq.mpr c35
       have c35b1 : (a0_1 != 0) = false := bne_eq_false_iff_eq.mpr c35
       clear c35
       replace H := Option.bind_eq_some_iff.mp H
       obtain ⟨t244, A360, H⟩ := H
       replace H : (if t244 = true then (if (l0_3.length : Int) = 0 then (impl_valueFormed.j0 k ((l0_4.length : Int) == 1) a0_0 a0_1 a0_2 l0_3 l0_4) else (impl_valueFormed.j0 k false a0_0 a0_1 a0_2 l0_3 l0_4)) else (impl_valueFormed.j0 k false a0_0 a0_1 a0_2 l0_3 l0_4)) = some r := H
       have A36 := Aside0.mk A360
       clear A360
       by_cases c37 : t244 = true
       ·subst c37
        have H1 : (if (l0_3.length : Int) = 0 then (impl_valueFormed.j0 k ((l0_4.length : Int) == 1) a0_0 a0_1 a0_2 l0_3 l0_4) else (impl_valueFormed.j0 k false a0_0 a0_1 a0_2 l0_3 l0_4)) = some r := by rw [if_pos rfl] at H; exact H
        clear H
        have H := H1
        clear H1
        by_cases c38 : (l0_3.length : Int) = 0
        ·rw [if_pos c38] at H
         have c38b0 : ((l0_3.length : Int) == 0) = true := beq_iff_eq.mpr c38
         have c38b1 : ((l0_3.length : Int) != 0) = false := bne_eq_false_iff_eq.mpr c38
         clear c38
         have H' := Aside0.mk H
         clear H
         obtain ⟨hcz39_0, hcz39_1, hcz39_2, hcz39_3, hcz39_4, hfz39_0, hfz39_1, hfz39_2, hfz39_3, hfz39_4⟩ := box5_ BK242.out
         go_wp2_with (first | (go_at_call 88; (with_reducible refine (impl_IsName.calls k a0_2 true _ A36.out).mono ?_); rintro e w' ⟨rfl, ⟨nd, rfl⟩⟩))
         go_meet
         case rel => exact ⟨_, (((l0_4.length : Int) == 1)), q_, H', ⟨le_⟩, ⟨K_ BK242.out⟩, ⟨B1_ HB.out GE242.out⟩⟩
        ·rw [if_neg c38] at H
         have c38b0 : ((l0_3.length : Int) == 0) = false := beq_eq_false_iff_ne.mpr c38
         have c38b1 : ((l0_3.length : Int) != 0) = true := bne_iff_ne.mpr c38
         have c38b2 : ¬ (l0_3 = []) := fun h_ => c38 (by rw [h_]; rfl)
         have H' := Aside0.mk H
         clear H
         obtain ⟨hcz40_0, hcz40_1, hcz40_2, hcz40_3, hcz40_4, hfz40_0, hfz40_1, hfz40_2, hfz40_3, hfz40_4⟩ := box5_ BK242.out
         go_wp2_with (first | (go_at_call 88; (with_reducible refine (impl_IsName.calls k a0_2 true _ A36.out).mono ?_); rintro e w' ⟨rfl, ⟨nd, rfl⟩⟩))
         go_meet
         case rel => exact ⟨_, (false), q_, H', ⟨le_⟩, ⟨K_ BK242.out⟩, ⟨B1_ HB.out GE242.out⟩⟩
       ·replace c37 := Bool.eq_false_iff.mpr c37
        subst c37
        have H1 : (impl_valueFormed.j0 k false a0_0 a0_1 a0_2 l0_3 l0_4) = some r := by rw [if_neg (show ¬ (false = true) by decide)] at H; exact H
        clear H
        have H := H1
        clear H1
        have H' := Aside0.mk H
        clear H
        obtain ⟨hcz41_0, hcz41_1, hcz41_2, hcz41_3, hcz41_4, hfz41_0, hfz41_1, hfz41_2, hfz41_3, hfz41_4⟩ := box5_ BK242.out
        go_wp2_with (first | (go_at_call 88; (with_reducible refine (impl_IsName.calls k a0_2 false _ A36.out).mono ?_); rintro e w' ⟨rfl, ⟨nd, rfl⟩⟩))
        go_meet
        case rel => exact ⟨_, (false), q_, H', ⟨le_⟩, ⟨K_ BK242.out⟩, ⟨B1_ HB.out GE242.out⟩⟩
      ·rw [if_neg c35] at H
       have c35b0 : (a0_1 == 0) = false := beq_eq_false_iff_ne.mpr c35
       have c35b1 : (a0_1 != 0) = true := bne_iff_ne.mpr c35
       have H' := Aside0.mk H
       clear H
       obtain ⟨hcz42_0, hcz42_1, hcz42_2, hcz42_3, hcz42_4, hfz42_0, hfz42_1, hfz42_2, hfz42_3, hfz42_4⟩ := box5_ BK242.out
       go_wp2
       go_meet
       case rel => exact ⟨_, (false), q_, H', ⟨le_⟩, ⟨K_ BK242.out⟩, ⟨B1_ HB.out GE242.out⟩⟩
     ·rw [if_neg c34] at H
      have c34b0 : (a0_0 == 4) = false := beq_eq_false_iff_ne.mpr c34
      have c34b1 : (a0_0 != 4) = true := bne_iff_ne.mpr c34
      by_cases c43 : a0_0 = 5
      ·rw [if_pos c43] at H
       have c43b0 : (a0_0 == 5) = true := beq_iff_eq.mpr c43
       have c43b1 : (a0_0 != 5) = false := bne_eq_false_iff_eq.mpr c43
       clear c43
       by_cases c44 : a0_1 = 0
       ·rw [if_pos c44] at H
        have c44b0 : (a0_1 == 0) = true := beq_iff_eq.mpr c44
        have c44b1 : (a0_1 != 0) = false := bne_eq_false_iff_eq.mpr c44
        clear c44
        by_cases c45 : a0_2.toList = ([] : List UInt8)
        ·rw [if_pos c45] at H
         have c45b0 : (a0_2.toList == ([] : List UInt8)) = true := beq_iff_eq.mpr c45
         have c45b1 : (a0_2.toList != ([] : List UInt8)) = false := bne_eq_false_iff_eq.mpr c45
         clear c45
         have H' := Aside0.mk H
         clear H
         obtain ⟨hcz46_0, hcz46_1, hcz46_2, hcz46_3, hcz46_4, hfz46_0, hfz46_1, hfz46_2, hfz46_3, hfz46_4⟩ := box5_ BK242.out
         go_wp2
         go_meet
         case rel => exact ⟨_, (((l0_3.length : Int) == 0)), q_, H', ⟨le_⟩, ⟨K_ BK242.out⟩, ⟨B1_ HB.out GE242.out⟩⟩
        ·rw [if_neg c45] at H
         have c45b0 : (a0_2.toList == ([] : List UInt8)) = false := beq_eq_false_iff_ne.mpr c45
         have c45b1 : (a0_2.toList != ([] : List UInt8)) = true := bne_iff_ne.mpr c45
         have H' := Aside0.mk H
         clear H
         obtain ⟨hcz47_0, hcz47_1, hcz47_2, hcz47_3, hcz47_4, hfz47_0, hfz47_1, hfz47_2, hfz47_3, hfz47_4⟩ := box5_ BK242.out
         go_wp2
         go_meet
         case rel => exact ⟨_, (false), q_, H', ⟨le_⟩, ⟨K_ BK242.out⟩, ⟨B1_ HB.out GE242.out⟩⟩
       ·rw [if_neg c44] at H
        have c44b0 : (a0_1 == 0) = false := beq_eq_false_iff_ne.mpr c44
        have c44b1 : (a0_1 != 0) = true := bne_iff_ne.mpr c44
        have H' := Aside0.mk H
        clear H
        obtain ⟨hcz48_0, hcz48_1, hcz48_2, hcz48_3, hcz48_4, hfz48_0, hfz48_1, hfz48_2, hfz48_3, hfz48_4⟩ := box5_ BK242.out
        go_wp2
        go_meet
        case rel => exact ⟨_, (false), q_, H', ⟨le_⟩, ⟨K_ BK242.out⟩, ⟨B1_ HB.out GE242.out⟩⟩
      ·rw [if_neg c43] at H
       have c43b0 : (a0_0 == 5) = false := beq_eq_false_iff_ne.mpr c43
       have c43b1 : (a0_0 != 5) = true := bne_iff_ne.mpr c43
       have H' := Aside0.mk H
       clear H
       go_wp2
       go_meet
       case rel => exact ⟨_, (false), q_, H', ⟨le_⟩, ⟨K_ BK242.out⟩, ⟨B1_ HB.out GE242.out⟩⟩
 case rest =>
  clear HC2
  try clear hcz4_0
  try clear hcz4_1
  try clear hcz4_2
  try clear hcz4_3
  try clear hcz4_4
  try clear hfz4_0
  try clear hfz4_1
  try clear hfz4_2
  try clear hfz4_3
  try clear hfz4_4
  obtain ⟨kq, x3_1, rfl, HA, HJ1, BK242, HB⟩ := hcut
  cases kq with
  | zero => exact absurd HA.out (by simp [impl_valueFormed.j0])
  | succ kj1 =>
   have H := HA.out
   clear HA
   simp only [impl_valueFormed.j0] at H
   have H' := Aside0.mk H
   clear H
   obtain ⟨hcz49_0, hcz49_1, hcz49_2, hcz49_3, hcz49_4, hfz49_0, hfz49_1, hfz49_2, hfz49_3, hfz49_4⟩ := box5_ BK242.out
   go_wp2
   go_loopg [3, 117] kj1 (fun kq v3 v117 w' => ∃ (x3_2 : Bool) (x117_2 : Int), v3 = .bool x3_2 ∧ v117 = .int .i64 x117_2 ∧ Aside0 (impl_valueFormed.l0 kq x3_2 l0_4 (l0_4.length : Int) x117_2 = some r) ∧ Aside0 (kq ≤ kj1) ∧ Aside0 (w'.heap[gb242]? = some (.cells #[.int .i64 a0_0, .int .i64 a0_1, .string a0_2, (.slice A0_3 l0_3.length c0_3), (.slice A0_4 l0_4.length c0_4)] 30 (0, 0))) ∧ Aside0 (Below w.heap.size w w'))
   case atStart => exact ⟨(x3_1), (0), q_, q_, H', ⟨Nat.le_refl _⟩, ⟨K_ BK242.out⟩, ⟨B1_ HB.out GE242.out⟩⟩
   case round =>
    clear H'
    try clear hcz49_0
    try clear hcz49_1
    try clear hcz49_2
    try clear hcz49_3
    try clear hcz49_4
    try clear hcz4_0
    try clear hcz4_1
    try clear hcz4_2
    try clear hcz4_3
    try clear hcz4_4
    try clear hfz49_0
    try clear hfz49_1
    try clear hfz49_2
    try clear hfz49_3
    try clear hfz49_4
    try clear hfz4_0
    try clear hfz4_1
    try clear hfz4_2
    try clear hfz4_3
    try clear hfz4_4
    obtain ⟨x3_2, x117_2, rfl, rfl, HA, HK2, BK242, HB⟩ := hrel
    cases gk with
    | zero => exact absurd HA.out (by simp [impl_valueFormed.l0])
    | succ k2 =>
     have H := HA.out
     clear HA
     simp only [impl_valueFormed.l0] at H
     by_cases c50 : x117_2 < (l0_4.length : Int)
     ·rw [if_pos c50] at H
      have c50b0 : decide (x117_2 < (l0_4.length : Int)) = true := decide_eq_true c50
      clear c50
      by_cases c51 : 0 ≤ x117_2
      ·rw [if_pos c51] at H
       have c51b0 : decide (0 ≤ x117_2) = true := decide_eq_true c51
       clear c51
       by_cases c52 : x117_2 < (l0_4.length : Int)
       ·rw [if_pos c52] at H
        have c52b0 : decide (x117_2 < (l0_4.length : Int)) = true := decide_eq_true c52
        clear c52
        by_cases c53 : x3_2 = true
        ·subst c53
         have H1 : ((impl_valueFormed.f k2 ((rd_T30 l0_4 x117_2).f0) ((rd_T30 l0_4 x117_2).f1) ((rd_T30 l0_4 x117_2).f2) ((rd_T30 l0_4 x117_2).f3) ((rd_T30 l0_4 x117_2).f4)).bind fun t247 => (impl_valueFormed.l0 k2 t247 l0_4 (l0_4.length : Int) (wrap64 (x117_2 + 1)))) = some r := by rw [if_pos rfl] at H; exact H
         clear H
         have H := H1
         clear H1
         replace H := Option.bind_eq_some_iff.mp H
         obtain ⟨t247, A540, H⟩ := H
         replace H : (impl_valueFormed.l0 k2 t247 l0_4 (l0_4.length : Int) (wrap64 (x117_2 + 1))) = some r := H
         have A54 := Aside0.mk A540
         clear A540
         have H' := Aside0.mk H
         clear H
         have p245 : 0 ≤ (x117_2 : Int) := de_
         have q245 : x117_2 < (l0_4.length : Int) := de_
         obtain ⟨ad245, A245_3, c245_3, A245_4, c245_4, e245, hx245_0, hx245_1, hx245_2, hx245_3, hx245_4, hl245_3, hi245_3, hl245_4, hi245_4⟩ := at_T30 HR0_4.out x117_2 p245 q245
         cases e245
         replace hx245_0 := (HB.out.cell (World.block_lt_of_cell? w _ hx245_0)).trans hx245_0
         replace hx245_1 := (HB.out.cell (World.block_lt_of_cell? w _ hx245_1)).trans hx245_1
         replace hx245_2 := (HB.out.cell (World.block_lt_of_cell? w _ hx245_2)).trans hx245_2
         replace hx245_3 := (HB.out.cell (World.block_lt_of_cell? w _ hx245_3)).trans hx245_3
         replace hx245_4 := (HB.out.cell (World.block_lt_of_cell? w _ hx245_4)).trans hx245_4
         have HR245_3 := Aside0.mk hi245_3
         have HC245_3 := Aside0.mk hl245_3
         clear hi245_3 hl245_3
         have HR245_4 := Aside0.mk hi245_4
         have HC245_4 := Aside0.mk hl245_4
         clear hi245_4 hl245_4
         replace p245 := eq_true p245
         replace q245 := eq_true q245
         go_wp2_with (first | ((with_reducible refine gate_dst (N := 5) rfl ?_); (try (refine gate_guard (by rfl) ?_; dsimp only)); refine box_event ?hg (N := 5) ?hd (cs := #[.int .i64 0, .int .i64 0, .string (⟨#[]⟩ : ByteArray), .slice none 0 0, .slice none 0 0]) (t := 30) ?hr ?_; (case hd => rfl); (case hg => rfl); (case hr => first | (go_simp; done) | (go_simp; rfl)); intro gb246 hg w55 hbox hb; have BK246 := Aside0.mk (hbox); have GW246 := Aside0.mk ((by rw [hg]; exact (below_size (B1_ HB.out GE242.out)) : w.heap.size ≤ gb246)); have GE246 := Aside0.mk ((by rw [hg]; exact (below_size (B1_ HB.out GE242.out)) : w.heap.size ≤ gb246)); replace HB := Aside0.mk (below_step (B1_ HB.out GE242.out) hb); have NB242_246 := Aside0.mk ((by rw [hg]; exact Nat.ne_of_lt (blk_lt (K_ BK242.out)) : gb242 ≠ gb246)); have NB246_242 := Aside0.mk ((by rw [hg]; exact Nat.ne_of_gt (blk_lt (K_ BK242.out)) : gb246 ≠ gb242)); replace BK242 := Aside0.mk (blk_below (K_ BK242.out) hb); clear hb hbox hg; have hnb56 := NB246_242.out; have hnc56 := NB242_246.out; obtain ⟨hcz57_0, hcz57_1, hcz57_2, hcz57_3, hcz57_4, hfz57_0, hfz57_1, hfz57_2, hfz57_3, hfz57_4⟩ := box5_ BK246.out) | (go_at_call 54; (with_reducible refine (ih k2 (by have := HJ1.out; have := HK2.out; omega) ((rd_T30 l0_4 x117_2).f0) ((rd_T30 l0_4 x117_2).f1) ((rd_T30 l0_4 x117_2).f2) _ _ ((rd_T30 l0_4 x117_2).f3) _ _ ((rd_T30 l0_4 x117_2).f4) t247 _ ?side1 ?side2 ?side3 ?side4 A54.out).mono ?_); (case side1 => exact Kd.C_below HR245_3.out (B2_ HB.out GE242.out GE246.out)); (case side2 => exact HC245_3.out); (case side3 => exact Kd.C_below HR245_4.out (B2_ HB.out GE242.out GE246.out)); (case side4 => exact HC245_4.out); rintro e w58 ⟨rfl, hb⟩; replace BK242 := Aside0.mk (blk_below (g := gb242) (o := .cells #[.int .i64 a0_0, .int .i64 a0_1, .string a0_2, .slice A0_3 l0_3.length c0_3, .slice (some ad245) l0_4.length c0_4] 30 (0, 0)) (by (with_reducible repeat (first | refine blk_drewN ?_ _ | refine blk_drew ?_ | refine blk_alloc ?_ _)); refine blk_far ?_ NB242_246.out _; (with_reducible repeat (first | refine blk_drewN ?_ _ | refine blk_drew ?_ | refine blk_alloc ?_ _)); refine blk_far ?_ NB242_246.out _; (with_reducible repeat (first | refine blk_drewN ?_ _ | refine blk_drew ?_ | refine blk_alloc ?_ _)); refine blk_far ?_ NB242_246.out _; (with_reducible repeat (first | refine blk_drewN ?_ _ | refine blk_drew ?_ | refine blk_alloc ?_ _)); refine blk_far ?_ NB242_246.out _; (with_reducible repeat (first | refine blk_drewN ?_ _ | refine blk_drew ?_ | refine blk_alloc ?_ _)); refine blk_far ?_ NB242_246.out _; (with_reducible repeat (first | refine blk_drewN ?_ _ | refine blk_drew ?_ | refine blk_alloc ?_ _)); exact BK242.out) hb); replace BK246 := Aside0.mk (blk_below (g := gb246) (o := .cells #[.int .i64 ((rd_T30 l0_4 x117_2).f0), .int .i64 ((rd_T30 l0_4 x117_2).f1), .string ((rd_T30 l0_4 x117_2).f2), .slice A245_3 ((rd_T30 l0_4 x117_2).f3).length c245_3, .slice A245_4 ((rd_T30 l0_4 x117_2).f4).length c245_4] 30 (0, 0)) (by (with_reducible repeat (first | refine blk_drewN ?_ _ | refine blk_drew ?_ | refine blk_alloc ?_ _)); refine blk_put (cs := #[.int .i64 ((rd_T30 l0_4 x117_2).f0), .int .i64 ((rd_T30 l0_4 x117_2).f1), .string ((rd_T30 l0_4 x117_2).f2), .slice A245_3 ((rd_T30 l0_4 x117_2).f3).length c245_3, .slice none 0 0]) ?_ 4 _ rfl; (with_reducible repeat (first | refine blk_drewN ?_ _ | refine blk_drew ?_ | refine blk_alloc ?_ _)); refine blk_put (cs := #[.int .i64 ((rd_T30 l0_4 x117_2).f0), .int .i64 ((rd_T30 l0_4 x117_2).f1), .string ((rd_T30 l0_4 x117_2).f2), .slice none 0 0, .slice none 0 0]) ?_ 3 _ rfl; (with_reducible repeat (first | refine blk_drewN ?_ _ | refine blk_drew ?_ | refine blk_alloc ?_ _)); refine blk_put (cs := #[.int .i64 ((rd_T30 l0_4 x117_2).f0), .int .i64 ((rd_T30 l0_4 x117_2).f1), .string (⟨#[]⟩ : ByteArray), .slice none 0 0, .slice none 0 0]) ?_ 2 _ rfl; (with_reducible repeat (first | refine blk_drewN ?_ _ | refine blk_drew ?_ | refine blk_alloc ?_ _)); refine blk_put (cs := #[.int .i64 ((rd_T30 l0_4 x117_2).f0), .int .i64 0, .string (⟨#[]⟩ : ByteArray), .slice none 0 0, .slice none 0 0]) ?_ 1 _ rfl; (with_reducible repeat (first | refine blk_drewN ?_ _ | refine blk_drew ?_ | refine blk_alloc ?_ _)); refine blk_put (cs := #[.int .i64 0, .int .i64 0, .string (⟨#[]⟩ : ByteArray), .slice none 0 0, .slice none 0 0]) ?_ 0 _ rfl; (with_reducible repeat (first | refine blk_drewN ?_ _ | refine blk_drew ?_ | refine blk_alloc ?_ _)); exact BK246.out) hb); replace HB := Aside0.mk (below_step (B2_ HB.out GE242.out GE246.out) hb); (try clear hb); (try clear hb2); (try clear hk); (try clear hi)))
         go_roundg k2
         case measure => have := HJ1.out; have := HK2.out; omega
         case rel => exact ⟨(t247), (wrap64 (x117_2 + 1)), q_, q_, H', ⟨by have := HJ1.out; have := HK2.out; omega⟩, ⟨K_ BK242.out⟩, ⟨B2_ HB.out GE242.out GE246.out⟩⟩
        ·replace c53 := Bool.eq_false_iff.mpr c53
         subst c53
         have H1 : (impl_valueFormed.l0 k2 false l0_4 (l0_4.length : Int) (wrap64 (x117_2 + 1))) = some r := by rw [if_neg (show ¬ (false = true) by decide)] at H; exact H
         clear H
         have H := H1
         clear H1
         have H' := Aside0.mk H
         clear H
         have p245 : 0 ≤ (x117_2 : Int) := de_
         have q245 : x117_2 < (l0_4.length : Int) := de_
         obtain ⟨ad245, A245_3, c245_3, A245_4, c245_4, e245, hx245_0, hx245_1, hx245_2, hx245_3, hx245_4, hl245_3, hi245_3, hl245_4, hi245_4⟩ := at_T30 HR0_4.out x117_2 p245 q245
         cases e245
         replace hx245_0 := (HB.out.cell (World.block_lt_of_cell? w _ hx245_0)).trans hx245_0
         replace hx245_1 := (HB.out.cell (World.block_lt_of_cell? w _ hx245_1)).trans hx245_1
         replace hx245_2 := (HB.out.cell (World.block_lt_of_cell? w _ hx245_2)).trans hx245_2
         replace hx245_3 := (HB.out.cell (World.block_lt_of_cell? w _ hx245_3)).trans hx245_3
         replace hx245_4 := (HB.out.cell (World.block_lt_of_cell? w _ hx245_4)).trans hx245_4
         have HR245_3 := Aside0.mk hi245_3
         have HC245_3 := Aside0.mk hl245_3
         clear hi245_3 hl245_3
         have HR245_4 := Aside0.mk hi245_4
         have HC245_4 := Aside0.mk hl245_4
         clear hi245_4 hl245_4
         replace p245 := eq_true p245
         replace q245 := eq_true q245
         go_wp2_with (first | ((with_reducible refine gate_dst (N := 5) rfl ?_); (try (refine gate_guard (by rfl) ?_; dsimp only)); refine box_event ?hg (N := 5) ?hd (cs := #[.int .i64 0, .int .i64 0, .string (⟨#[]⟩ : ByteArray), .slice none 0 0, .slice none 0 0]) (t := 30) ?hr ?_; (case hd => rfl); (case hg => rfl); (case hr => first | (go_simp; done) | (go_simp; rfl)); intro gb246 hg w59 hbox hb; have BK246 := Aside0.mk (hbox); have GW246 := Aside0.mk ((by rw [hg]; exact (below_size (B1_ HB.out GE242.out)) : w.heap.size ≤ gb246)); have GE246 := Aside0.mk ((by rw [hg]; exact (below_size (B1_ HB.out GE242.out)) : w.heap.size ≤ gb246)); replace HB := Aside0.mk (below_step (B1_ HB.out GE242.out) hb); have NB242_246 := Aside0.mk ((by rw [hg]; exact Nat.ne_of_lt (blk_lt (K_ BK242.out)) : gb242 ≠ gb246)); have NB246_242 := Aside0.mk ((by rw [hg]; exact Nat.ne_of_gt (blk_lt (K_ BK242.out)) : gb246 ≠ gb242)); replace BK242 := Aside0.mk (blk_below (K_ BK242.out) hb); clear hb hbox hg; have hnb60 := NB246_242.out; have hnc60 := NB242_246.out; obtain ⟨hcz61_0, hcz61_1, hcz61_2, hcz61_3, hcz61_4, hfz61_0, hfz61_1, hfz61_2, hfz61_3, hfz61_4⟩ := box5_ BK246.out))
         go_roundg k2
         case measure => have := HJ1.out; have := HK2.out; omega
         case rel => exact ⟨(false), (wrap64 (x117_2 + 1)), q_, q_, H', ⟨by have := HJ1.out; have := HK2.out; omega⟩, ⟨by (with_reducible repeat (first | refine blk_drewN ?_ _ | refine blk_drew ?_ | refine blk_alloc ?_ _)); refine blk_far ?_ NB242_246.out _; (with_reducible repeat (first | refine blk_drewN ?_ _ | refine blk_drew ?_ | refine blk_alloc ?_ _)); refine blk_far ?_ NB242_246.out _; (with_reducible repeat (first | refine blk_drewN ?_ _ | refine blk_drew ?_ | refine blk_alloc ?_ _)); refine blk_far ?_ NB242_246.out _; (with_reducible repeat (first | refine blk_drewN ?_ _ | refine blk_drew ?_ | refine blk_alloc ?_ _)); refine blk_far ?_ NB242_246.out _; (with_reducible repeat (first | refine blk_drewN ?_ _ | refine blk_drew ?_ | refine blk_alloc ?_ _)); refine blk_far ?_ NB242_246.out _; (with_reducible repeat (first | refine blk_drewN ?_ _ | refine blk_drew ?_ | refine blk_alloc ?_ _)); exact BK242.out⟩, ⟨B2_ HB.out GE242.out GE246.out⟩⟩
       ·rw [if_neg c52] at H
        exact absurd H (by simp)
      ·rw [if_neg c51] at H
       exact absurd H (by simp)
     ·rw [if_neg c50] at H
      have c50b0 : decide (x117_2 < (l0_4.length : Int)) = false := decide_eq_false c50
      clear c50
      obtain rfl := Option.some.inj H
      go_wp2
      go_ret
      exact ⟨er_, B1_ HB.out GE242.out⟩

end Go.Proofs.Ytmelflbbeecjfaa.XB
