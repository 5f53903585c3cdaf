-- Written by myprint.py, a program of this session, which runs the kit's printer with changes of its own. Lean checks it.
import Derived.Test.YtibcndpadbipmaaXFx0
import Derived.Test.YtibcndpadbipmaaXFx6
import Derived.Test.YtibcndpadbipmaaSq
namespace Go.Proofs.Ytibcndpadbipmaa.XF
open Go.RowKit Go.Proofs.YtibcndpadbipmaaW.PrintWords Go.Proofs.YtibcndpadbipmaaW.PrintLast Go.Proofs.YtibcndpadbipmaaW.PrintMore Go.Proofs.Ytibcndpadbipmaa.Sq
attribute [local go_sem] max2_int min2_int max_two min_two max_three min_three max_four min_four   -- for this text's walks alone
set_option linter.unusedVariables false
set_option linter.unusedSimpArgs false

/-! ### impl_opticFormed: function 48 -/
mutual
def impl_opticFormed.j1 : Nat → Bool → Int → ByteArray → Int → List (S29) → Option (Bool)
 | 0, _, _, _, _, _ => none
 | k + 1, x3, x142000, x142001, x142002, x142003 => impl_opticFormed.l0 k x3 x142003 (x142003.length : Int) 0
def impl_opticFormed.l0 : Nat → Bool → List (S29) → Int → Int → Option (Bool)
 | 0, _, _, _, _ => none
 | k + 1, x3, x73, x74, x75 => if x75 < x74 then (if 0 ≤ x75 then (if x75 < (x73.length : Int) then (if x3 = true then ((impl_opticFormed.f k ((rd_T29 x73 x75).f0) ((rd_T29 x73 x75).f1) ((rd_T29 x73 x75).f2) ((rd_T29 x73 x75).f3)).bind fun t147 => (impl_opticFormed.l0 k t147 x73 x74 (wrap64 (x75 + 1)))) else (impl_opticFormed.l0 k false x73 x74 (wrap64 (x75 + 1)))) else (none)) else (none)) else (some x3)
def impl_opticFormed.j0 : Nat → Bool → Int → Bool → Int → ByteArray → Int → List (S29) → Option (Bool)
 | 0, _, _, _, _, _, _, _ => none
 | k + 1, x3, x14, x26, x142000, x142001, x142002, x142003 => if x26 = true then (if x3 = true then ((impl_IsName.f k x142001).bind fun t143 => (if t143 = true then (impl_opticFormed.j1 k (x142002 == 0) x142000 x142001 x142002 x142003) else (impl_opticFormed.j1 k false x142000 x142001 x142002 x142003))) else (impl_opticFormed.j1 k false x142000 x142001 x142002 x142003)) else (if x14 = 6 then (if x3 = true then (if x142001.toList = ([] : List UInt8) then (if x142002 ≥ 0 then (impl_opticFormed.j1 k (decide (x142002 ≤ 1000)) x142000 x142001 x142002 x142003) else (impl_opticFormed.j1 k false x142000 x142001 x142002 x142003)) else (impl_opticFormed.j1 k false x142000 x142001 x142002 x142003)) else (impl_opticFormed.j1 k false x142000 x142001 x142002 x142003)) else (if x14 = 7 then (if x3 = true then (if x142001.toList = ([] : List UInt8) then ((impl_stepOk.f x142002).bind fun t144 => (impl_opticFormed.j1 k t144 x142000 x142001 x142002 x142003)) else (impl_opticFormed.j1 k false x142000 x142001 x142002 x142003)) else (impl_opticFormed.j1 k false x142000 x142001 x142002 x142003)) else (if x3 = true then (if x142001.toList = ([] : List UInt8) then (impl_opticFormed.j1 k (x142002 == 0) x142000 x142001 x142002 x142003) else (impl_opticFormed.j1 k false x142000 x142001 x142002 x142003)) else (impl_opticFormed.j1 k false x142000 x142001 x142002 x142003))))
def impl_opticFormed.f : Nat → Int → ByteArray → Int → List (S29) → Option (Bool)
 | 0, _, _, _, _ => none
 | k + 1, a0_0, a0_1, a0_2, l0_3 => (impl_ArityOf.f k a0_0).bind fun t142 => (if a0_0 = 2 then (impl_opticFormed.j0 k ((l0_3.length : Int) == t142) a0_0 (a0_0 == 2) a0_0 a0_1 a0_2 l0_3) else (if a0_0 = 3 then (impl_opticFormed.j0 k ((l0_3.length : Int) == t142) a0_0 (a0_0 == 3) a0_0 a0_1 a0_2 l0_3) else (impl_opticFormed.j0 k ((l0_3.length : Int) == t142) a0_0 (a0_0 == 10) a0_0 a0_1 a0_2 l0_3)))
end
theorem impl_opticFormed.mono_l : ∀ k, (∀ y0 y1 y2 y3, LeO (impl_opticFormed.f k y0 y1 y2 y3) (impl_opticFormed.f (k + 1) y0 y1 y2 y3)) ∧ (∀ y0 y1 y2 y3 y4, LeO (impl_opticFormed.j1 k y0 y1 y2 y3 y4) (impl_opticFormed.j1 (k + 1) y0 y1 y2 y3 y4)) ∧ (∀ y0 y1 y2 y3, LeO (impl_opticFormed.l0 k y0 y1 y2 y3) (impl_opticFormed.l0 (k + 1) y0 y1 y2 y3)) ∧ (∀ y0 y1 y2 y3 y4 y5 y6, LeO (impl_opticFormed.j0 k y0 y1 y2 y3 y4 y5 y6) (impl_opticFormed.j0 (k + 1) y0 y1 y2 y3 y4 y5 y6))
 | 0 => ⟨fun _ _ _ _ r h => by simp [impl_opticFormed.f] at h, fun _ _ _ _ _ r h => by simp [impl_opticFormed.j1] at h, fun _ _ _ _ r h => by simp [impl_opticFormed.l0] at h, fun _ _ _ _ _ _ _ r h => by simp [impl_opticFormed.j0] at h⟩
 | k + 1 => by
  obtain ⟨ih0, ih1, ih2, ih3⟩ := impl_opticFormed.mono_l k
  refine ⟨?_, ?_, ?_, ?_⟩
  ·intro y0 y1 y2 y3
   unfold impl_opticFormed.f
   repeat' first
   | (with_reducible exact ih0 _ _ _ _)
   | (with_reducible exact ih1 _ _ _ _ _)
   | (with_reducible exact ih2 _ _ _ _)
   | (with_reducible exact ih3 _ _ _ _ _ _ _)
   | (with_reducible exact impl_ArityOf.mono _ _)
   | (with_reducible exact impl_IsName.mono _ _)
   | (with_reducible exact LeO.refl _)
   | (with_reducible exact LeO.none _)
   | (with_reducible refine LeO.ite ?_ ?_)
   | (with_reducible refine LeO.bind ?_ (fun _ => ?_))
   | exact ih0 _ _ _ _
   | exact ih1 _ _ _ _ _
   | exact ih2 _ _ _ _
   | exact ih3 _ _ _ _ _ _ _
   | exact impl_ArityOf.mono _ _
   | exact impl_IsName.mono _ _
   | exact LeO.none _
   | refine LeO.ite ?_ ?_
   | refine LeO.bind ?_ (fun _ => ?_)
  ·intro y0 y1 y2 y3 y4
   unfold impl_opticFormed.j1
   repeat' first
   | (with_reducible exact ih0 _ _ _ _)
   | (with_reducible exact ih1 _ _ _ _ _)
   | (with_reducible exact ih2 _ _ _ _)
   | (with_reducible exact ih3 _ _ _ _ _ _ _)
   | (with_reducible exact impl_ArityOf.mono _ _)
   | (with_reducible exact impl_IsName.mono _ _)
   | (with_reducible exact LeO.refl _)
   | (with_reducible exact LeO.none _)
   | (with_reducible refine LeO.ite ?_ ?_)
   | (with_reducible refine LeO.bind ?_ (fun _ => ?_))
   | exact ih0 _ _ _ _
   | exact ih1 _ _ _ _ _
   | exact ih2 _ _ _ _
   | exact ih3 _ _ _ _ _ _ _
   | exact impl_ArityOf.mono _ _
   | exact impl_IsName.mono _ _
   | exact LeO.none _
   | refine LeO.ite ?_ ?_
   | refine LeO.bind ?_ (fun _ => ?_)
  ·intro y0 y1 y2 y3
   unfold impl_opticFormed.l0
   repeat' first
   | (with_reducible exact ih0 _ _ _ _)
   | (with_reducible exact ih1 _ _ _ _ _)
   | (with_reducible exact ih2 _ _ _ _)
   | (with_reducible exact ih3 _ _ _ _ _ _ _)
   | (with_reducible exact impl_ArityOf.mono _ _)
   | (with_reducible exact impl_IsName.mono _ _)
   | (with_reducible exact LeO.refl _)
   | (with_reducible exact LeO.none _)
   | (with_reducible refine LeO.ite ?_ ?_)
   | (with_reducible refine LeO.bind ?_ (fun _ => ?_))
   | exact ih0 _ _ _ _
   | exact ih1 _ _ _ _ _
   | exact ih2 _ _ _ _
   | exact ih3 _ _ _ _ _ _ _
   | exact impl_ArityOf.mono _ _
   | exact impl_IsName.mono _ _
   | exact LeO.none _
   | refine LeO.ite ?_ ?_
   | refine LeO.bind ?_ (fun _ => ?_)
  ·intro y0 y1 y2 y3 y4 y5 y6
   unfold impl_opticFormed.j0
   repeat' first
   | (with_reducible exact ih0 _ _ _ _)
   | (with_reducible exact ih1 _ _ _ _ _)
   | (with_reducible exact ih2 _ _ _ _)
   | (with_reducible exact ih3 _ _ _ _ _ _ _)
   | (with_reducible exact impl_ArityOf.mono _ _)
   | (with_reducible exact impl_IsName.mono _ _)
   | (with_reducible exact LeO.refl _)
   | (with_reducible exact LeO.none _)
   | (with_reducible refine LeO.ite ?_ ?_)
   | (with_reducible refine LeO.bind ?_ (fun _ => ?_))
   | exact ih0 _ _ _ _
   | exact ih1 _ _ _ _ _
   | exact ih2 _ _ _ _
   | exact ih3 _ _ _ _ _ _ _
   | exact impl_ArityOf.mono _ _
   | exact impl_IsName.mono _ _
   | exact LeO.none _
   | refine LeO.ite ?_ ?_
   | refine LeO.bind ?_ (fun _ => ?_)
theorem impl_opticFormed.mono : ∀ a0 a1 a2 a3 k, LeO (impl_opticFormed.f k a0 a1 a2 a3) (impl_opticFormed.f (k + 1) a0 a1 a2 a3) := by
 intro a0 a1 a2 a3 k
 obtain ⟨ih0, ih1, ih2, ih3⟩ := impl_opticFormed.mono_l k
 exact ih0 a0 a1 a2 a3
set_option maxHeartbeats 8000000 in
set_option maxRecDepth 100000 in
theorem impl_opticFormed.calls (k : Nat) : ∀ (a0_0 : Int) (a0_1 : ByteArray) (a0_2 : Int) (A0_3 : Option Addr) (c0_3 : Nat) (l0_3 : List (S29)) (r : Bool) (w : World) (hr0_3 : Kd.C k29 w A0_3 l0_3.length l0_3) (hc0_3 : l0_3.length ≤ c0_3) (h : impl_opticFormed.f k a0_0 a0_1 a0_2 l0_3 = some r),
  Calls Try.prog 48 #[.agg #[.int .i64 a0_0, .string a0_1, .int .i64 a0_2, .slice A0_3 l0_3.length c0_3]] w fun e w' => e = .returned (.bool r) ∧ Below w.heap.size w w' := by
 induction k using Nat.strongRecOn with
 | _ k ih =>
 intro a0_0 a0_1 a0_2 A0_3 c0_3 l0_3 r w hr0_3 hc0_3 h
 cases k with
 | zero => exact absurd h (by simp [impl_opticFormed.f])
 | succ k =>
 simp only [impl_opticFormed.f] at h
 have hu29 := Try.underlying29
 have HR0_3 := Aside0.mk hr0_3
 have HC0_3 := Aside0.mk hc0_3
 clear hr0_3 hc0_3
 have HB := Aside0.mk (Below.refl w.heap.size w)
 have H : ((impl_ArityOf.f k a0_0).bind fun t142 => (if a0_0 = 2 then (impl_opticFormed.j0 k ((l0_3.length : Int) == t142) a0_0 (a0_0 == 2) a0_0 a0_1 a0_2 l0_3) else (if a0_0 = 3 then (impl_opticFormed.j0 k ((l0_3.length : Int) == t142) a0_0 (a0_0 == 3) a0_0 a0_1 a0_2 l0_3) else (impl_opticFormed.j0 k ((l0_3.length : Int) == t142) a0_0 (a0_0 == 10) a0_0 a0_1 a0_2 l0_3)))) = some r := h
 clear h
 replace H := Option.bind_eq_some_iff.mp H
 obtain ⟨t142, A20, H⟩ := H
 replace H : (if a0_0 = 2 then (impl_opticFormed.j0 k ((l0_3.length : Int) == t142) a0_0 (a0_0 == 2) a0_0 a0_1 a0_2 l0_3) else (if a0_0 = 3 then (impl_opticFormed.j0 k ((l0_3.length : Int) == t142) a0_0 (a0_0 == 3) a0_0 a0_1 a0_2 l0_3) else (impl_opticFormed.j0 k ((l0_3.length : Int) == t142) a0_0 (a0_0 == 10) a0_0 a0_1 a0_2 l0_3))) = some r := H
 have A2 := Aside0.mk A20
 clear A20
 have HC3 := Aside0.mk H
 clear H
 go_enter Try.func48, Try.ntmps48
 go_upto_block 0 with (first | ((with_reducible refine gate_dst (N := 1) rfl ?_); refine box_event ?hg (N := 1) ?hd (cs := #[.int .i64 a0_0, .string a0_1, .int .i64 a0_2, .slice A0_3 l0_3.length c0_3]) (t := 29) ?hr ?_; (case hd => rfl); (case hg => rfl); (case hr => first | (go_simp; done) | (go_simp; rfl)); intro gb141 hg w4 hbox hb; have BK141 := Aside0.mk (hbox); have GW141 := Aside0.mk ((by rw [hg]; exact (below_size (B0_ HB.out)) : w.heap.size ≤ gb141)); have GE141 := Aside0.mk ((by rw [hg]; exact (below_size (B0_ HB.out)) : w.heap.size ≤ gb141)); replace HB := Aside0.mk (below_step (B0_ HB.out) hb); clear hb hbox hg; obtain ⟨hcz5_0, hcz5_1, hcz5_2, hcz5_3, hfz5_0, hfz5_1, hfz5_2, hfz5_3⟩ := box4_ BK141.out) | (go_at_call 32; (with_reducible refine (impl_ArityOf.calls k a0_0 t142 _ A2.out).mono ?_); rintro e w' ⟨rfl, ⟨nd, rfl⟩⟩; (try first | exact ⟨rfl, _, World.drewN_drewN _ _ _⟩ | exact ⟨rfl, _, Eq.trans (World.drewN_drewN _ _ _) (congrArg (World.drewN _) (Nat.add_assoc _ _ _))⟩)))
 repeat (go_quiet (first | ((with_reducible refine gate_dst (N := 1) rfl ?_); refine box_event ?hg (N := 1) ?hd (cs := #[.int .i64 a0_0, .string a0_1, .int .i64 a0_2, .slice A0_3 l0_3.length c0_3]) (t := 29) ?hr ?_; (case hd => rfl); (case hg => rfl); (case hr => first | (go_simp; done) | (go_simp; rfl)); intro gb141 hg w4 hbox hb; have BK141 := Aside0.mk (hbox); have GW141 := Aside0.mk ((by rw [hg]; exact (below_size (B0_ HB.out)) : w.heap.size ≤ gb141)); have GE141 := Aside0.mk ((by rw [hg]; exact (below_size (B0_ HB.out)) : w.heap.size ≤ gb141)); replace HB := Aside0.mk (below_step (B0_ HB.out) hb); clear hb hbox hg; obtain ⟨hcz5_0, hcz5_1, hcz5_2, hcz5_3, hfz5_0, hfz5_1, hfz5_2, hfz5_3⟩ := box4_ BK141.out) | (go_at_call 32; (with_reducible refine (impl_ArityOf.calls k a0_0 t142 _ A2.out).mono ?_); rintro e w' ⟨rfl, ⟨nd, rfl⟩⟩; (try first | exact ⟨rfl, _, World.drewN_drewN _ _ _⟩ | exact ⟨rfl, _, Eq.trans (World.drewN_drewN _ _ _) (congrArg (World.drewN _) (Nat.add_assoc _ _ _))⟩))); go_upto_block 0 with (first | ((with_reducible refine gate_dst (N := 1) rfl ?_); refine box_event ?hg (N := 1) ?hd (cs := #[.int .i64 a0_0, .string a0_1, .int .i64 a0_2, .slice A0_3 l0_3.length c0_3]) (t := 29) ?hr ?_; (case hd => rfl); (case hg => rfl); (case hr => first | (go_simp; done) | (go_simp; rfl)); intro gb141 hg w4 hbox hb; have BK141 := Aside0.mk (hbox); have GW141 := Aside0.mk ((by rw [hg]; exact (below_size (B0_ HB.out)) : w.heap.size ≤ gb141)); have GE141 := Aside0.mk ((by rw [hg]; exact (below_size (B0_ HB.out)) : w.heap.size ≤ gb141)); replace HB := Aside0.mk (below_step (B0_ HB.out) hb); clear hb hbox hg; obtain ⟨hcz5_0, hcz5_1, hcz5_2, hcz5_3, hfz5_0, hfz5_1, hfz5_2, hfz5_3⟩ := box4_ BK141.out) | (go_at_call 32; (with_reducible refine (impl_ArityOf.calls k a0_0 t142 _ A2.out).mono ?_); rintro e w' ⟨rfl, ⟨nd, rfl⟩⟩; (try first | exact ⟨rfl, _, World.drewN_drewN _ _ _⟩ | exact ⟨rfl, _, Eq.trans (World.drewN_drewN _ _ _) (congrArg (World.drewN _) (Nat.add_assoc _ _ _))⟩))))
 (try simp only [Act.put, List.setIfInBounds_toArray, List.set_cons_zero, List.set_cons_succ])
 go_cut [3] (fun v3 wc => ∃ (kq : Nat) (x3_2 : Bool), v3 = .bool x3_2 ∧ Aside0 (impl_opticFormed.j1 kq x3_2 a0_0 a0_1 a0_2 l0_3 = some r) ∧ Aside0 (kq ≤ k) ∧ Aside0 (wc.heap[gb141]? = some (.cells #[.int .i64 a0_0, .string a0_1, .int .i64 a0_2, (.slice A0_3 l0_3.length c0_3)] 29 (0, 0))) ∧ Aside0 (Below w.heap.size w wc))
 case first =>
  have H := HC3.out
  clear HC3
  have HC6 := Aside0.mk H
  clear H
  go_upto_if 26 with (fail)
  repeat (go_quiet (fail); go_upto_if 26 with (fail))
  go_cut [26] (fun v26 wc => ∃ (kq : Nat) (x26_5 : Bool), v26 = .bool x26_5 ∧ Aside0 (impl_opticFormed.j0 kq ((l0_3.length : Int) == t142) a0_0 x26_5 a0_0 a0_1 a0_2 l0_3 = some r) ∧ Aside0 (kq ≤ k) ∧ Aside0 (wc.heap[gb141]? = some (.cells #[.int .i64 a0_0, .string a0_1, .int .i64 a0_2, (.slice A0_3 l0_3.length c0_3)] 29 (0, 0))) ∧ Aside0 (Below w.heap.size w wc))
  case first =>
   have H := HC6.out
   clear HC6
   by_cases c7 : a0_0 = 2
   ·rw [if_pos c7] at H
    have c7b0 : (a0_0 == 2) = true := beq_iff_eq.mpr c7
    have c7b1 : (a0_0 != 2) = false := bne_eq_false_iff_eq.mpr c7
    clear c7
    (first | rw [c7b0] | (simp only [i64_w, i32_w]; rw [c7b0]) | skip)
    have H' := Aside0.mk H
    clear H
    go_wp2
    repeat (go_quiet (fail); try go_wp2)
    go_meet
    case rel => exact ⟨_, ((a0_0 == 2)), q_, H', ⟨le_⟩, ⟨K_ BK141.out⟩, ⟨B1_ HB.out GE141.out⟩⟩
   ·rw [if_neg c7] at H
    have c7b0 : (a0_0 == 2) = false := beq_eq_false_iff_ne.mpr c7
    have c7b1 : (a0_0 != 2) = true := bne_iff_ne.mpr c7
    (first | rw [c7b0] | (simp only [i64_w, i32_w]; rw [c7b0]) | skip)
    by_cases c8 : a0_0 = 3
    ·rw [if_pos c8] at H
     have c8b0 : (a0_0 == 3) = true := beq_iff_eq.mpr c8
     have c8b1 : (a0_0 != 3) = false := bne_eq_false_iff_eq.mpr c8
     clear c8
     have H' := Aside0.mk H
     clear H
     go_wp2
     repeat (go_quiet (fail); try go_wp2)
     go_meet
     case rel => exact ⟨_, ((a0_0 == 3)), q_, H', ⟨le_⟩, ⟨K_ BK141.out⟩, ⟨B1_ HB.out GE141.out⟩⟩
    ·rw [if_neg c8] at H
     have c8b0 : (a0_0 == 3) = false := beq_eq_false_iff_ne.mpr c8
     have c8b1 : (a0_0 != 3) = true := bne_iff_ne.mpr c8
     have H' := Aside0.mk H
     clear H
     go_wp2
     repeat (go_quiet (fail); try go_wp2)
     go_meet
     case rel => exact ⟨_, ((a0_0 == 10)), q_, H', ⟨le_⟩, ⟨K_ BK141.out⟩, ⟨B1_ HB.out GE141.out⟩⟩
  case rest =>
   clear HC6
   try clear hcz5_0
   try clear hcz5_1
   try clear hcz5_2
   try clear hcz5_3
   try clear hfz5_0
   try clear hfz5_1
   try clear hfz5_2
   try clear hfz5_3
   obtain ⟨kq, x26_5, rfl, HA, HJ5, BK141, HB⟩ := hcut
   cases kq with
   | zero => exact absurd HA.out (by simp [impl_opticFormed.j0])
   | succ kj5 =>
    have H := HA.out
    clear HA
    simp only [impl_opticFormed.j0] at H
    by_cases c9 : x26_5 = true
    ·subst c9
     have H1 : (if ((l0_3.length : Int) == t142) = true then ((impl_IsName.f kj5 a0_1).bind fun t143 => (if t143 = true then (impl_opticFormed.j1 kj5 (a0_2 == 0) a0_0 a0_1 a0_2 l0_3) else (impl_opticFormed.j1 kj5 false a0_0 a0_1 a0_2 l0_3))) else (impl_opticFormed.j1 kj5 false a0_0 a0_1 a0_2 l0_3)) = some r := by rw [if_pos rfl] at H; exact H
     clear H
     have H := H1
     clear H1
     by_cases c10 : ((l0_3.length : Int) == t142) = true
     ·rw [if_pos c10] at H
      have c10b0 : ((l0_3.length : Int) == t142) = true := c10
      (try (have c10b1 : decide ((l0_3.length : Int) = t142) = true := by simpa using c10))
      (try (have c10b2 : ((l0_3.length : Int) == t142) = true := by simpa using c10))
      clear c10
      replace H := Option.bind_eq_some_iff.mp H
      obtain ⟨t143, A110, H⟩ := H
      replace H : (if t143 = true then (impl_opticFormed.j1 kj5 (a0_2 == 0) a0_0 a0_1 a0_2 l0_3) else (impl_opticFormed.j1 kj5 false a0_0 a0_1 a0_2 l0_3)) = some r := H
      have A11 := Aside0.mk A110
      clear A110
      by_cases c12 : t143 = true
      ·subst c12
       have H1 : (impl_opticFormed.j1 kj5 (a0_2 == 0) a0_0 a0_1 a0_2 l0_3) = some r := by rw [if_pos rfl] at H; exact H
       clear H
       have H := H1
       clear H1
       have H' := Aside0.mk H
       clear H
       obtain ⟨hcz13_0, hcz13_1, hcz13_2, hcz13_3, hfz13_0, hfz13_1, hfz13_2, hfz13_3⟩ := box4_ BK141.out
       go_wp2_with (first | (go_at_call 65; (with_reducible refine (impl_IsName.calls kj5 a0_1 true _ A11.out).mono ?_); rintro e w' ⟨rfl, ⟨nd, rfl⟩⟩; (try first | exact ⟨rfl, _, World.drewN_drewN _ _ _⟩ | exact ⟨rfl, _, Eq.trans (World.drewN_drewN _ _ _) (congrArg (World.drewN _) (Nat.add_assoc _ _ _))⟩)))
       repeat (go_quiet (first | (go_at_call 65; (with_reducible refine (impl_IsName.calls kj5 a0_1 true _ A11.out).mono ?_); rintro e w' ⟨rfl, ⟨nd, rfl⟩⟩; (try first | exact ⟨rfl, _, World.drewN_drewN _ _ _⟩ | exact ⟨rfl, _, Eq.trans (World.drewN_drewN _ _ _) (congrArg (World.drewN _) (Nat.add_assoc _ _ _))⟩))); try go_wp2_with (first | (go_at_call 65; (with_reducible refine (impl_IsName.calls kj5 a0_1 true _ A11.out).mono ?_); rintro e w' ⟨rfl, ⟨nd, rfl⟩⟩; (try first | exact ⟨rfl, _, World.drewN_drewN _ _ _⟩ | exact ⟨rfl, _, Eq.trans (World.drewN_drewN _ _ _) (congrArg (World.drewN _) (Nat.add_assoc _ _ _))⟩))))
       go_meet
       case rel => exact ⟨_, ((a0_2 == 0)), q_, H', ⟨by have := HJ5.out; first | omega | exact Nat.le_refl _⟩, ⟨K_ BK141.out⟩, ⟨B1_ HB.out GE141.out⟩⟩
      ·replace c12 := Bool.eq_false_iff.mpr c12
       subst c12
       have H1 : (impl_opticFormed.j1 kj5 false a0_0 a0_1 a0_2 l0_3) = some r := by rw [if_neg (show ¬ (false = true) by decide)] at H; exact H
       clear H
       have H := H1
       clear H1
       have H' := Aside0.mk H
       clear H
       obtain ⟨hcz14_0, hcz14_1, hcz14_2, hcz14_3, hfz14_0, hfz14_1, hfz14_2, hfz14_3⟩ := box4_ BK141.out
       go_wp2_with (first | (go_at_call 65; (with_reducible refine (impl_IsName.calls kj5 a0_1 false _ A11.out).mono ?_); rintro e w' ⟨rfl, ⟨nd, rfl⟩⟩; (try first | exact ⟨rfl, _, World.drewN_drewN _ _ _⟩ | exact ⟨rfl, _, Eq.trans (World.drewN_drewN _ _ _) (congrArg (World.drewN _) (Nat.add_assoc _ _ _))⟩)))
       repeat (go_quiet (first | (go_at_call 65; (with_reducible refine (impl_IsName.calls kj5 a0_1 false _ A11.out).mono ?_); rintro e w' ⟨rfl, ⟨nd, rfl⟩⟩; (try first | exact ⟨rfl, _, World.drewN_drewN _ _ _⟩ | exact ⟨rfl, _, Eq.trans (World.drewN_drewN _ _ _) (congrArg (World.drewN _) (Nat.add_assoc _ _ _))⟩))); try go_wp2_with (first | (go_at_call 65; (with_reducible refine (impl_IsName.calls kj5 a0_1 false _ A11.out).mono ?_); rintro e w' ⟨rfl, ⟨nd, rfl⟩⟩; (try first | exact ⟨rfl, _, World.drewN_drewN _ _ _⟩ | exact ⟨rfl, _, Eq.trans (World.drewN_drewN _ _ _) (congrArg (World.drewN _) (Nat.add_assoc _ _ _))⟩))))
       go_meet
       case rel => exact ⟨_, (false), q_, H', ⟨by have := HJ5.out; first | omega | exact Nat.le_refl _⟩, ⟨K_ BK141.out⟩, ⟨B1_ HB.out GE141.out⟩⟩
     ·rw [if_neg c10] at H
      have c10b0 : ((l0_3.length : Int) == t142) = false := by simpa using c10
      (try (have c10b1 : decide ((l0_3.length : Int) = t142) = false := by simpa using c10))
      (try (have c10b2 : ((l0_3.length : Int) == t142) = false := by simpa using c10))
      (try (have c10b3 : ¬ ((l0_3.length : Int) = t142) := by simpa using c10))
      clear c10
      have H' := Aside0.mk H
      clear H
      go_wp2
      repeat (go_quiet (fail); try go_wp2)
      go_meet
      case rel => exact ⟨_, (false), q_, H', ⟨by have := HJ5.out; first | omega | exact Nat.le_refl _⟩, ⟨K_ BK141.out⟩, ⟨B1_ HB.out GE141.out⟩⟩
    ·replace c9 := Bool.eq_false_iff.mpr c9
     subst c9
     have H1 : (if a0_0 = 6 then (if ((l0_3.length : Int) == t142) = true then (if a0_1.toList = ([] : List UInt8) then (if a0_2 ≥ 0 then (impl_opticFormed.j1 kj5 (decide (a0_2 ≤ 1000)) a0_0 a0_1 a0_2 l0_3) else (impl_opticFormed.j1 kj5 false a0_0 a0_1 a0_2 l0_3)) else (impl_opticFormed.j1 kj5 false a0_0 a0_1 a0_2 l0_3)) else (impl_opticFormed.j1 kj5 false a0_0 a0_1 a0_2 l0_3)) else (if a0_0 = 7 then (if ((l0_3.length : Int) == t142) = true then (if a0_1.toList = ([] : List UInt8) then ((impl_stepOk.f a0_2).bind fun t144 => (impl_opticFormed.j1 kj5 t144 a0_0 a0_1 a0_2 l0_3)) else (impl_opticFormed.j1 kj5 false a0_0 a0_1 a0_2 l0_3)) else (impl_opticFormed.j1 kj5 false a0_0 a0_1 a0_2 l0_3)) else (if ((l0_3.length : Int) == t142) = true then (if a0_1.toList = ([] : List UInt8) then (impl_opticFormed.j1 kj5 (a0_2 == 0) a0_0 a0_1 a0_2 l0_3) else (impl_opticFormed.j1 kj5 false a0_0 a0_1 a0_2 l0_3)) else (impl_opticFormed.j1 kj5 false a0_0 a0_1 a0_2 l0_3)))) = some r := by rw [if_neg (show ¬ (false = true) by decide)] at H; exact H
     clear H
     have H := H1
     clear H1
     by_cases c15 : a0_0 = 6
     ·rw [if_pos c15] at H
      have c15b0 : (a0_0 == 6) = true := beq_iff_eq.mpr c15
      have c15b1 : (a0_0 != 6) = false := bne_eq_false_iff_eq.mpr c15
      clear c15
      by_cases c16 : ((l0_3.length : Int) == t142) = true
      ·rw [if_pos c16] at H
       have c16b0 : ((l0_3.length : Int) == t142) = true := c16
       (try (have c16b1 : decide ((l0_3.length : Int) = t142) = true := by simpa using c16))
       (try (have c16b2 : ((l0_3.length : Int) == t142) = true := by simpa using c16))
       clear c16
       by_cases c17 : a0_1.toList = ([] : List UInt8)
       ·rw [if_pos c17] at H
        have c17b0 : (a0_1.toList == ([] : List UInt8)) = true := beq_iff_eq.mpr c17
        have c17b1 : (a0_1.toList != ([] : List UInt8)) = false := bne_eq_false_iff_eq.mpr c17
        clear c17
        by_cases c18 : a0_2 ≥ 0
        ·rw [if_pos c18] at H
         have c18b0 : decide (0 ≤ a0_2) = true := decide_eq_true c18
         clear c18
         have H' := Aside0.mk H
         clear H
         obtain ⟨hcz19_0, hcz19_1, hcz19_2, hcz19_3, hfz19_0, hfz19_1, hfz19_2, hfz19_3⟩ := box4_ BK141.out
         go_wp2
         repeat (go_quiet (fail); try go_wp2)
         go_meet
         case rel => exact ⟨_, (decide (a0_2 ≤ 1000)), q_, H', ⟨by have := HJ5.out; first | omega | exact Nat.le_refl _⟩, ⟨K_ BK141.out⟩, ⟨B1_ HB.out GE141.out⟩⟩
        ·rw [if_neg c18] at H
         have c18b0 : decide (0 ≤ a0_2) = false := decide_eq_false c18
         clear c18
         have H' := Aside0.mk H
         clear H
         obtain ⟨hcz20_0, hcz20_1, hcz20_2, hcz20_3, hfz20_0, hfz20_1, hfz20_2, hfz20_3⟩ := box4_ BK141.out
         go_wp2
         repeat (go_quiet (fail); try go_wp2)
         go_meet
         case rel => exact ⟨_, (false), q_, H', ⟨by have := HJ5.out; first | omega | exact Nat.le_refl _⟩, ⟨K_ BK141.out⟩, ⟨B1_ HB.out GE141.out⟩⟩
       ·rw [if_neg c17] at H
        have c17b0 : (a0_1.toList == ([] : List UInt8)) = false := beq_eq_false_iff_ne.mpr c17
        have c17b1 : (a0_1.toList != ([] : List UInt8)) = true := bne_iff_ne.mpr c17
        have H' := Aside0.mk H
        clear H
        obtain ⟨hcz21_0, hcz21_1, hcz21_2, hcz21_3, hfz21_0, hfz21_1, hfz21_2, hfz21_3⟩ := box4_ BK141.out
        go_wp2
        repeat (go_quiet (fail); try go_wp2)
        go_meet
        case rel => exact ⟨_, (false), q_, H', ⟨by have := HJ5.out; first | omega | exact Nat.le_refl _⟩, ⟨K_ BK141.out⟩, ⟨B1_ HB.out GE141.out⟩⟩
      ·rw [if_neg c16] at H
       have c16b0 : ((l0_3.length : Int) == t142) = false := by simpa using c16
       (try (have c16b1 : decide ((l0_3.length : Int) = t142) = false := by simpa using c16))
       (try (have c16b2 : ((l0_3.length : Int) == t142) = false := by simpa using c16))
       (try (have c16b3 : ¬ ((l0_3.length : Int) = t142) := by simpa using c16))
       clear c16
       have H' := Aside0.mk H
       clear H
       go_wp2
       repeat (go_quiet (fail); try go_wp2)
       go_meet
       case rel => exact ⟨_, (false), q_, H', ⟨by have := HJ5.out; first | omega | exact Nat.le_refl _⟩, ⟨K_ BK141.out⟩, ⟨B1_ HB.out GE141.out⟩⟩
     ·rw [if_neg c15] at H
      have c15b0 : (a0_0 == 6) = false := beq_eq_false_iff_ne.mpr c15
      have c15b1 : (a0_0 != 6) = true := bne_iff_ne.mpr c15
      by_cases c22 : a0_0 = 7
      ·rw [if_pos c22] at H
       have c22b0 : (a0_0 == 7) = true := beq_iff_eq.mpr c22
       have c22b1 : (a0_0 != 7) = false := bne_eq_false_iff_eq.mpr c22
       clear c22
       by_cases c23 : ((l0_3.length : Int) == t142) = true
       ·rw [if_pos c23] at H
        have c23b0 : ((l0_3.length : Int) == t142) = true := c23
        (try (have c23b1 : decide ((l0_3.length : Int) = t142) = true := by simpa using c23))
        (try (have c23b2 : ((l0_3.length : Int) == t142) = true := by simpa using c23))
        clear c23
        by_cases c24 : a0_1.toList = ([] : List UInt8)
        ·rw [if_pos c24] at H
         have c24b0 : (a0_1.toList == ([] : List UInt8)) = true := beq_iff_eq.mpr c24
         have c24b1 : (a0_1.toList != ([] : List UInt8)) = false := bne_eq_false_iff_eq.mpr c24
         clear c24
         replace H := Option.bind_eq_some_iff.mp H
         obtain ⟨t144, A250, H⟩ := H
         replace H : (impl_opticFormed.j1 kj5 t144 a0_0 a0_1 a0_2 l0_3) = some r := H
         have A25 := Aside0.mk A250
         clear A250
         have H' := Aside0.mk H
         clear H
         obtain ⟨hcz26_0, hcz26_1, hcz26_2, hcz26_3, hfz26_0, hfz26_1, hfz26_2, hfz26_3⟩ := box4_ BK141.out
         go_wp2_with (first | (go_at_call 66; (with_reducible refine (impl_stepOk.calls a0_2 t144 _ A25.out).mono ?_); rintro e w' ⟨rfl, ⟨nd, rfl⟩⟩; (try first | exact ⟨rfl, _, World.drewN_drewN _ _ _⟩ | exact ⟨rfl, _, Eq.trans (World.drewN_drewN _ _ _) (congrArg (World.drewN _) (Nat.add_assoc _ _ _))⟩)))
         repeat (go_quiet (first | (go_at_call 66; (with_reducible refine (impl_stepOk.calls a0_2 t144 _ A25.out).mono ?_); rintro e w' ⟨rfl, ⟨nd, rfl⟩⟩; (try first | exact ⟨rfl, _, World.drewN_drewN _ _ _⟩ | exact ⟨rfl, _, Eq.trans (World.drewN_drewN _ _ _) (congrArg (World.drewN _) (Nat.add_assoc _ _ _))⟩))); try go_wp2_with (first | (go_at_call 66; (with_reducible refine (impl_stepOk.calls a0_2 t144 _ A25.out).mono ?_); rintro e w' ⟨rfl, ⟨nd, rfl⟩⟩; (try first | exact ⟨rfl, _, World.drewN_drewN _ _ _⟩ | exact ⟨rfl, _, Eq.trans (World.drewN_drewN _ _ _) (congrArg (World.drewN _) (Nat.add_assoc _ _ _))⟩))))
         go_meet
         case rel => exact ⟨_, (t144), q_, H', ⟨by have := HJ5.out; first | omega | exact Nat.le_refl _⟩, ⟨K_ BK141.out⟩, ⟨B1_ HB.out GE141.out⟩⟩
        ·rw [if_neg c24] at H
         have c24b0 : (a0_1.toList == ([] : List UInt8)) = false := beq_eq_false_iff_ne.mpr c24
         have c24b1 : (a0_1.toList != ([] : List UInt8)) = true := bne_iff_ne.mpr c24
         have H' := Aside0.mk H
         clear H
         obtain ⟨hcz27_0, hcz27_1, hcz27_2, hcz27_3, hfz27_0, hfz27_1, hfz27_2, hfz27_3⟩ := box4_ BK141.out
         go_wp2
         repeat (go_quiet (fail); try go_wp2)
         go_meet
         case rel => exact ⟨_, (false), q_, H', ⟨by have := HJ5.out; first | omega | exact Nat.le_refl _⟩, ⟨K_ BK141.out⟩, ⟨B1_ HB.out GE141.out⟩⟩
       ·rw [if_neg c23] at H
        have c23b0 : ((l0_3.length : Int) == t142) = false := by simpa using c23
        (try (have c23b1 : decide ((l0_3.length : Int) = t142) = false := by simpa using c23))
        (try (have c23b2 : ((l0_3.length : Int) == t142) = false := by simpa using c23))
        (try (have c23b3 : ¬ ((l0_3.length : Int) = t142) := by simpa using c23))
        clear c23
        have H' := Aside0.mk H
        clear H
        go_wp2
        repeat (go_quiet (fail); try go_wp2)
        go_meet
        case rel => exact ⟨_, (false), q_, H', ⟨by have := HJ5.out; first | omega | exact Nat.le_refl _⟩, ⟨K_ BK141.out⟩, ⟨B1_ HB.out GE141.out⟩⟩
      ·rw [if_neg c22] at H
       have c22b0 : (a0_0 == 7) = false := beq_eq_false_iff_ne.mpr c22
       have c22b1 : (a0_0 != 7) = true := bne_iff_ne.mpr c22
       by_cases c28 : ((l0_3.length : Int) == t142) = true
       ·rw [if_pos c28] at H
        have c28b0 : ((l0_3.length : Int) == t142) = true := c28
        (try (have c28b1 : decide ((l0_3.length : Int) = t142) = true := by simpa using c28))
        (try (have c28b2 : ((l0_3.length : Int) == t142) = true := by simpa using c28))
        clear c28
        by_cases c29 : a0_1.toList = ([] : List UInt8)
        ·rw [if_pos c29] at H
         have c29b0 : (a0_1.toList == ([] : List UInt8)) = true := beq_iff_eq.mpr c29
         have c29b1 : (a0_1.toList != ([] : List UInt8)) = false := bne_eq_false_iff_eq.mpr c29
         clear c29
         have H' := Aside0.mk H
         clear H
         obtain ⟨hcz30_0, hcz30_1, hcz30_2, hcz30_3, hfz30_0, hfz30_1, hfz30_2, hfz30_3⟩ := box4_ BK141.out
         go_wp2
         repeat (go_quiet (fail); try go_wp2)
         go_meet
         case rel => exact ⟨_, ((a0_2 == 0)), q_, H', ⟨by have := HJ5.out; first | omega | exact Nat.le_refl _⟩, ⟨K_ BK141.out⟩, ⟨B1_ HB.out GE141.out⟩⟩
        ·rw [if_neg c29] at H
         have c29b0 : (a0_1.toList == ([] : List UInt8)) = false := beq_eq_false_iff_ne.mpr c29
         have c29b1 : (a0_1.toList != ([] : List UInt8)) = true := bne_iff_ne.mpr c29
         have H' := Aside0.mk H
         clear H
         obtain ⟨hcz31_0, hcz31_1, hcz31_2, hcz31_3, hfz31_0, hfz31_1, hfz31_2, hfz31_3⟩ := box4_ BK141.out
         go_wp2
         repeat (go_quiet (fail); try go_wp2)
         go_meet
         case rel => exact ⟨_, (false), q_, H', ⟨by have := HJ5.out; first | omega | exact Nat.le_refl _⟩, ⟨K_ BK141.out⟩, ⟨B1_ HB.out GE141.out⟩⟩
       ·rw [if_neg c28] at H
        have c28b0 : ((l0_3.length : Int) == t142) = false := by simpa using c28
        (try (have c28b1 : decide ((l0_3.length : Int) = t142) = false := by simpa using c28))
        (try (have c28b2 : ((l0_3.length : Int) == t142) = false := by simpa using c28))
        (try (have c28b3 : ¬ ((l0_3.length : Int) = t142) := by simpa using c28))
        clear c28
        have H' := Aside0.mk H
        clear H
        go_wp2
        repeat (go_quiet (fail); try go_wp2)
        go_meet
        case rel => exact ⟨_, (false), q_, H', ⟨by have := HJ5.out; first | omega | exact Nat.le_refl _⟩, ⟨K_ BK141.out⟩, ⟨B1_ HB.out GE141.out⟩⟩
 case rest =>
  clear HC3
  try clear hcz5_0
  try clear hcz5_1
  try clear hcz5_2
  try clear hcz5_3
  try clear hfz5_0
  try clear hfz5_1
  try clear hfz5_2
  try clear hfz5_3
  obtain ⟨kq, x3_2, rfl, HA, HJ2, BK141, HB⟩ := hcut
  cases kq with
  | zero => exact absurd HA.out (by simp [impl_opticFormed.j1])
  | succ kj2 =>
   have H := HA.out
   clear HA
   simp only [impl_opticFormed.j1] at H
   have H' := Aside0.mk H
   clear H
   obtain ⟨hcz32_0, hcz32_1, hcz32_2, hcz32_3, hfz32_0, hfz32_1, hfz32_2, hfz32_3⟩ := box4_ BK141.out
   go_wp2
   repeat (go_quiet (fail); try go_wp2)
   go_loopg [3, 75] kj2 (fun kq v3 v75 w' => ∃ (x3_2 : Bool) (x75_2 : Int), v3 = .bool x3_2 ∧ v75 = .int .i64 x75_2 ∧ Aside0 (impl_opticFormed.l0 kq x3_2 l0_3 (l0_3.length : Int) x75_2 = some r) ∧ Aside0 (kq ≤ kj2) ∧ Aside0 (w'.heap[gb141]? = some (.cells #[.int .i64 a0_0, .string a0_1, .int .i64 a0_2, (.slice A0_3 l0_3.length c0_3)] 29 (0, 0))) ∧ Aside0 (Below w.heap.size w w'))
   case atStart => exact ⟨(x3_2), (0), q_, q_, H', ⟨Nat.le_refl _⟩, ⟨K_ BK141.out⟩, ⟨B1_ HB.out GE141.out⟩⟩
   case round =>
    clear H'
    try clear hcz32_0
    try clear hcz32_1
    try clear hcz32_2
    try clear hcz32_3
    try clear hcz5_0
    try clear hcz5_1
    try clear hcz5_2
    try clear hcz5_3
    try clear hfz32_0
    try clear hfz32_1
    try clear hfz32_2
    try clear hfz32_3
    try clear hfz5_0
    try clear hfz5_1
    try clear hfz5_2
    try clear hfz5_3
    obtain ⟨x3_2, x75_2, rfl, rfl, HA, HK2, BK141, HB⟩ := hrel
    cases gk with
    | zero => exact absurd HA.out (by simp [impl_opticFormed.l0])
    | succ k2 =>
     have H := HA.out
     clear HA
     simp only [impl_opticFormed.l0] at H
     by_cases c33 : x75_2 < (l0_3.length : Int)
     ·rw [if_pos c33] at H
      have c33b0 : decide (x75_2 < (l0_3.length : Int)) = true := decide_eq_true c33
      clear c33
      by_cases c34 : 0 ≤ x75_2
      ·rw [if_pos c34] at H
       have c34b0 : decide (0 ≤ x75_2) = true := decide_eq_true c34
       clear c34
       by_cases c35 : x75_2 < (l0_3.length : Int)
       ·rw [if_pos c35] at H
        have c35b0 : decide (x75_2 < (l0_3.length : Int)) = true := decide_eq_true c35
        clear c35
        by_cases c36 : x3_2 = true
        ·subst c36
         have H1 : ((impl_opticFormed.f k2 ((rd_T29 l0_3 x75_2).f0) ((rd_T29 l0_3 x75_2).f1) ((rd_T29 l0_3 x75_2).f2) ((rd_T29 l0_3 x75_2).f3)).bind fun t147 => (impl_opticFormed.l0 k2 t147 l0_3 (l0_3.length : Int) (wrap64 (x75_2 + 1)))) = some r := by rw [if_pos rfl] at H; exact H
         clear H
         have H := H1
         clear H1
         replace H := Option.bind_eq_some_iff.mp H
         obtain ⟨t147, A370, H⟩ := H
         replace H : (impl_opticFormed.l0 k2 t147 l0_3 (l0_3.length : Int) (wrap64 (x75_2 + 1))) = some r := H
         have A37 := Aside0.mk A370
         clear A370
         have H' := Aside0.mk H
         clear H
         have p145 : 0 ≤ (x75_2 : Int) := de_
         have q145 : x75_2 < (l0_3.length : Int) := de_
         obtain ⟨ad145, A145_3, c145_3, e145, hx145_0, hx145_1, hx145_2, hx145_3, hl145_3, hi145_3⟩ := at_T29 HR0_3.out x75_2 p145 q145
         cases e145
         replace hx145_0 := (HB.out.cell (World.block_lt_of_cell? w _ hx145_0)).trans hx145_0
         replace hx145_1 := (HB.out.cell (World.block_lt_of_cell? w _ hx145_1)).trans hx145_1
         replace hx145_2 := (HB.out.cell (World.block_lt_of_cell? w _ hx145_2)).trans hx145_2
         replace hx145_3 := (HB.out.cell (World.block_lt_of_cell? w _ hx145_3)).trans hx145_3
         have HR145_3 := Aside0.mk hi145_3
         have HC145_3 := Aside0.mk hl145_3
         clear hi145_3 hl145_3
         replace p145 := eq_true p145
         replace q145 := eq_true q145
         go_wp2_with (first | ((with_reducible refine gate_dst (N := 5) rfl ?_); refine box_event ?hg (N := 5) ?hd (cs := #[.int .i64 0, .string (⟨#[]⟩ : ByteArray), .int .i64 0, .slice none 0 0]) (t := 29) ?hr ?_; (case hd => rfl); (case hg => rfl); (case hr => first | (go_simp; done) | (go_simp; rfl)); intro gb146 hg w38 hbox hb; have BK146 := Aside0.mk (hbox); have GW146 := Aside0.mk ((by rw [hg]; exact (below_size (B1_ HB.out GE141.out)) : w.heap.size ≤ gb146)); have GE146 := Aside0.mk ((by rw [hg]; exact (below_size (B1_ HB.out GE141.out)) : w.heap.size ≤ gb146)); replace HB := Aside0.mk (below_step (B1_ HB.out GE141.out) hb); have NB141_146 := Aside0.mk ((by rw [hg]; exact Nat.ne_of_lt (blk_lt (K_ BK141.out)) : gb141 ≠ gb146)); have NB146_141 := Aside0.mk ((by rw [hg]; exact Nat.ne_of_gt (blk_lt (K_ BK141.out)) : gb146 ≠ gb141)); replace BK141 := Aside0.mk (blk_below (K_ BK141.out) hb); clear hb hbox hg; have hnb39 := NB146_141.out; have hnc39 := NB141_146.out; obtain ⟨hcz40_0, hcz40_1, hcz40_2, hcz40_3, hfz40_0, hfz40_1, hfz40_2, hfz40_3⟩ := box4_ BK146.out) | (go_at_call 48; (with_reducible refine (ih k2 (by have := HJ2.out; have := HK2.out; omega) ((rd_T29 l0_3 x75_2).f0) ((rd_T29 l0_3 x75_2).f1) ((rd_T29 l0_3 x75_2).f2) _ _ ((rd_T29 l0_3 x75_2).f3) t147 _ ?side1 ?side2 A37.out).mono ?_); (case side1 => exact Kd.C_below HR145_3.out (B2_ HB.out GE141.out GE146.out)); (case side2 => exact HC145_3.out); rintro e w41 ⟨rfl, hb⟩; replace BK141 := Aside0.mk (blk_below (g := gb141) (o := .cells #[.int .i64 a0_0, .string a0_1, .int .i64 a0_2, .slice (some ad145) l0_3.length c0_3] 29 (0, 0)) (by (with_reducible repeat (first | refine blk_drewN ?_ _ | refine blk_drew ?_ | refine blk_alloc ?_ _)); refine blk_far ?_ NB141_146.out _; (with_reducible repeat (first | refine blk_drewN ?_ _ | refine blk_drew ?_ | refine blk_alloc ?_ _)); refine blk_far ?_ NB141_146.out _; (with_reducible repeat (first | refine blk_drewN ?_ _ | refine blk_drew ?_ | refine blk_alloc ?_ _)); refine blk_far ?_ NB141_146.out _; (with_reducible repeat (first | refine blk_drewN ?_ _ | refine blk_drew ?_ | refine blk_alloc ?_ _)); refine blk_far ?_ NB141_146.out _; (with_reducible repeat (first | refine blk_drewN ?_ _ | refine blk_drew ?_ | refine blk_alloc ?_ _)); exact BK141.out) hb); replace BK146 := Aside0.mk (blk_below (g := gb146) (o := .cells #[.int .i64 ((rd_T29 l0_3 x75_2).f0), .string ((rd_T29 l0_3 x75_2).f1), .int .i64 ((rd_T29 l0_3 x75_2).f2), .slice A145_3 ((rd_T29 l0_3 x75_2).f3).length c145_3] 29 (0, 0)) (by (with_reducible repeat (first | refine blk_drewN ?_ _ | refine blk_drew ?_ | refine blk_alloc ?_ _)); refine blk_put (cs := #[.int .i64 ((rd_T29 l0_3 x75_2).f0), .string ((rd_T29 l0_3 x75_2).f1), .int .i64 ((rd_T29 l0_3 x75_2).f2), .slice none 0 0]) ?_ 3 _ rfl; (with_reducible repeat (first | refine blk_drewN ?_ _ | refine blk_drew ?_ | refine blk_alloc ?_ _)); refine blk_put (cs := #[.int .i64 ((rd_T29 l0_3 x75_2).f0), .string ((rd_T29 l0_3 x75_2).f1), .int .i64 0, .slice none 0 0]) ?_ 2 _ rfl; (with_reducible repeat (first | refine blk_drewN ?_ _ | refine blk_drew ?_ | refine blk_alloc ?_ _)); refine blk_put (cs := #[.int .i64 ((rd_T29 l0_3 x75_2).f0), .string (⟨#[]⟩ : ByteArray), .int .i64 0, .slice none 0 0]) ?_ 1 _ rfl; (with_reducible repeat (first | refine blk_drewN ?_ _ | refine blk_drew ?_ | refine blk_alloc ?_ _)); refine blk_put (cs := #[.int .i64 0, .string (⟨#[]⟩ : ByteArray), .int .i64 0, .slice none 0 0]) ?_ 0 _ rfl; (with_reducible repeat (first | refine blk_drewN ?_ _ | refine blk_drew ?_ | refine blk_alloc ?_ _)); exact BK146.out) hb); replace HB := Aside0.mk (below_step (B2_ HB.out GE141.out GE146.out) hb); (try clear hb); (try clear hb2); (try clear hk); (try clear hi)))
         repeat (go_quiet (first | ((with_reducible refine gate_dst (N := 5) rfl ?_); refine box_event ?hg (N := 5) ?hd (cs := #[.int .i64 0, .string (⟨#[]⟩ : ByteArray), .int .i64 0, .slice none 0 0]) (t := 29) ?hr ?_; (case hd => rfl); (case hg => rfl); (case hr => first | (go_simp; done) | (go_simp; rfl)); intro gb146 hg w38 hbox hb; have BK146 := Aside0.mk (hbox); have GW146 := Aside0.mk ((by rw [hg]; exact (below_size (B1_ HB.out GE141.out)) : w.heap.size ≤ gb146)); have GE146 := Aside0.mk ((by rw [hg]; exact (below_size (B1_ HB.out GE141.out)) : w.heap.size ≤ gb146)); replace HB := Aside0.mk (below_step (B1_ HB.out GE141.out) hb); have NB141_146 := Aside0.mk ((by rw [hg]; exact Nat.ne_of_lt (blk_lt (K_ BK141.out)) : gb141 ≠ gb146)); have NB146_141 := Aside0.mk ((by rw [hg]; exact Nat.ne_of_gt (blk_lt (K_ BK141.out)) : gb146 ≠ gb141)); replace BK141 := Aside0.mk (blk_below (K_ BK141.out) hb); clear hb hbox hg; have hnb39 := NB146_141.out; have hnc39 := NB141_146.out; obtain ⟨hcz40_0, hcz40_1, hcz40_2, hcz40_3, hfz40_0, hfz40_1, hfz40_2, hfz40_3⟩ := box4_ BK146.out) | (go_at_call 48; (with_reducible refine (ih k2 (by have := HJ2.out; have := HK2.out; omega) ((rd_T29 l0_3 x75_2).f0) ((rd_T29 l0_3 x75_2).f1) ((rd_T29 l0_3 x75_2).f2) _ _ ((rd_T29 l0_3 x75_2).f3) t147 _ ?side1 ?side2 A37.out).mono ?_); (case side1 => exact Kd.C_below HR145_3.out (B2_ HB.out GE141.out GE146.out)); (case side2 => exact HC145_3.out); rintro e w41 ⟨rfl, hb⟩; replace BK141 := Aside0.mk (blk_below (g := gb141) (o := .cells #[.int .i64 a0_0, .string a0_1, .int .i64 a0_2, .slice (some ad145) l0_3.length c0_3] 29 (0, 0)) (by (with_reducible repeat (first | refine blk_drewN ?_ _ | refine blk_drew ?_ | refine blk_alloc ?_ _)); refine blk_far ?_ NB141_146.out _; (with_reducible repeat (first | refine blk_drewN ?_ _ | refine blk_drew ?_ | refine blk_alloc ?_ _)); refine blk_far ?_ NB141_146.out _; (with_reducible repeat (first | refine blk_drewN ?_ _ | refine blk_drew ?_ | refine blk_alloc ?_ _)); refine blk_far ?_ NB141_146.out _; (with_reducible repeat (first | refine blk_drewN ?_ _ | refine blk_drew ?_ | refine blk_alloc ?_ _)); refine blk_far ?_ NB141_146.out _; (with_reducible repeat (first | refine blk_drewN ?_ _ | refine blk_drew ?_ | refine blk_alloc ?_ _)); exact BK141.out) hb); replace BK146 := Aside0.mk (blk_below (g := gb146) (o := .cells #[.int .i64 ((rd_T29 l0_3 x75_2).f0), .string ((rd_T29 l0_3 x75_2).f1), .int .i64 ((rd_T29 l0_3 x75_2).f2), .slice A145_3 ((rd_T29 l0_3 x75_2).f3).length c145_3] 29 (0, 0)) (by (with_reducible repeat (first | refine blk_drewN ?_ _ | refine blk_drew ?_ | refine blk_alloc ?_ _)); refine blk_put (cs := #[.int .i64 ((rd_T29 l0_3 x75_2).f0), .string ((rd_T29 l0_3 x75_2).f1), .int .i64 ((rd_T29 l0_3 x75_2).f2), .slice none 0 0]) ?_ 3 _ rfl; (with_reducible repeat (first | refine blk_drewN ?_ _ | refine blk_drew ?_ | refine blk_alloc ?_ _)); refine blk_put (cs := #[.int .i64 ((rd_T29 l0_3 x75_2).f0), .string ((rd_T29 l0_3 x75_2).f1), .int .i64 0, .slice none 0 0]) ?_ 2 _ rfl; (with_reducible repeat (first | refine blk_drewN ?_ _ | refine blk_drew ?_ | refine blk_alloc ?_ _)); refine blk_put (cs := #[.int .i64 ((rd_T29 l0_3 x75_2).f0), .string (⟨#[]⟩ : ByteArray), .int .i64 0, .slice none 0 0]) ?_ 1 _ rfl; (with_reducible repeat (first | refine blk_drewN ?_ _ | refine blk_drew ?_ | refine blk_alloc ?_ _)); refine blk_put (cs := #[.int .i64 0, .string (⟨#[]⟩ : ByteArray), .int .i64 0, .slice none 0 0]) ?_ 0 _ rfl; (with_reducible repeat (first | refine blk_drewN ?_ _ | refine blk_drew ?_ | refine blk_alloc ?_ _)); exact BK146.out) hb); replace HB := Aside0.mk (below_step (B2_ HB.out GE141.out GE146.out) hb); (try clear hb); (try clear hb2); (try clear hk); (try clear hi))); try go_wp2_with (first | ((with_reducible refine gate_dst (N := 5) rfl ?_); refine box_event ?hg (N := 5) ?hd (cs := #[.int .i64 0, .string (⟨#[]⟩ : ByteArray), .int .i64 0, .slice none 0 0]) (t := 29) ?hr ?_; (case hd => rfl); (case hg => rfl); (case hr => first | (go_simp; done) | (go_simp; rfl)); intro gb146 hg w38 hbox hb; have BK146 := Aside0.mk (hbox); have GW146 := Aside0.mk ((by rw [hg]; exact (below_size (B1_ HB.out GE141.out)) : w.heap.size ≤ gb146)); have GE146 := Aside0.mk ((by rw [hg]; exact (below_size (B1_ HB.out GE141.out)) : w.heap.size ≤ gb146)); replace HB := Aside0.mk (below_step (B1_ HB.out GE141.out) hb); have NB141_146 := Aside0.mk ((by rw [hg]; exact Nat.ne_of_lt (blk_lt (K_ BK141.out)) : gb141 ≠ gb146)); have NB146_141 := Aside0.mk ((by rw [hg]; exact Nat.ne_of_gt (blk_lt (K_ BK141.out)) : gb146 ≠ gb141)); replace BK141 := Aside0.mk (blk_below (K_ BK141.out) hb); clear hb hbox hg; have hnb39 := NB146_141.out; have hnc39 := NB141_146.out; obtain ⟨hcz40_0, hcz40_1, hcz40_2, hcz40_3, hfz40_0, hfz40_1, hfz40_2, hfz40_3⟩ := box4_ BK146.out) | (go_at_call 48; (with_reducible refine (ih k2 (by have := HJ2.out; have := HK2.out; omega) ((rd_T29 l0_3 x75_2).f0) ((rd_T29 l0_3 x75_2).f1) ((rd_T29 l0_3 x75_2).f2) _ _ ((rd_T29 l0_3 x75_2).f3) t147 _ ?side1 ?side2 A37.out).mono ?_); (case side1 => exact Kd.C_below HR145_3.out (B2_ HB.out GE141.out GE146.out)); (case side2 => exact HC145_3.out); rintro e w41 ⟨rfl, hb⟩; replace BK141 := Aside0.mk (blk_below (g := gb141) (o := .cells #[.int .i64 a0_0, .string a0_1, .int .i64 a0_2, .slice (some ad145) l0_3.length c0_3] 29 (0, 0)) (by (with_reducible repeat (first | refine blk_drewN ?_ _ | refine blk_drew ?_ | refine blk_alloc ?_ _)); refine blk_far ?_ NB141_146.out _; (with_reducible repeat (first | refine blk_drewN ?_ _ | refine blk_drew ?_ | refine blk_alloc ?_ _)); refine blk_far ?_ NB141_146.out _; (with_reducible repeat (first | refine blk_drewN ?_ _ | refine blk_drew ?_ | refine blk_alloc ?_ _)); refine blk_far ?_ NB141_146.out _; (with_reducible repeat (first | refine blk_drewN ?_ _ | refine blk_drew ?_ | refine blk_alloc ?_ _)); refine blk_far ?_ NB141_146.out _; (with_reducible repeat (first | refine blk_drewN ?_ _ | refine blk_drew ?_ | refine blk_alloc ?_ _)); exact BK141.out) hb); replace BK146 := Aside0.mk (blk_below (g := gb146) (o := .cells #[.int .i64 ((rd_T29 l0_3 x75_2).f0), .string ((rd_T29 l0_3 x75_2).f1), .int .i64 ((rd_T29 l0_3 x75_2).f2), .slice A145_3 ((rd_T29 l0_3 x75_2).f3).length c145_3] 29 (0, 0)) (by (with_reducible repeat (first | refine blk_drewN ?_ _ | refine blk_drew ?_ | refine blk_alloc ?_ _)); refine blk_put (cs := #[.int .i64 ((rd_T29 l0_3 x75_2).f0), .string ((rd_T29 l0_3 x75_2).f1), .int .i64 ((rd_T29 l0_3 x75_2).f2), .slice none 0 0]) ?_ 3 _ rfl; (with_reducible repeat (first | refine blk_drewN ?_ _ | refine blk_drew ?_ | refine blk_alloc ?_ _)); refine blk_put (cs := #[.int .i64 ((rd_T29 l0_3 x75_2).f0), .string ((rd_T29 l0_3 x75_2).f1), .int .i64 0, .slice none 0 0]) ?_ 2 _ rfl; (with_reducible repeat (first | refine blk_drewN ?_ _ | refine blk_drew ?_ | refine blk_alloc ?_ _)); refine blk_put (cs := #[.int .i64 ((rd_T29 l0_3 x75_2).f0), .string (⟨#[]⟩ : ByteArray), .int .i64 0, .slice none 0 0]) ?_ 1 _ rfl; (with_reducible repeat (first | refine blk_drewN ?_ _ | refine blk_drew ?_ | refine blk_alloc ?_ _)); refine blk_put (cs := #[.int .i64 0, .string (⟨#[]⟩ : ByteArray), .int .i64 0, .slice none 0 0]) ?_ 0 _ rfl; (with_reducible repeat (first | refine blk_drewN ?_ _ | refine blk_drew ?_ | refine blk_alloc ?_ _)); exact BK146.out) hb); replace HB := Aside0.mk (below_step (B2_ HB.out GE141.out GE146.out) hb); (try clear hb); (try clear hb2); (try clear hk); (try clear hi))))
         go_roundg k2
         case measure => have := HJ2.out; have := HK2.out; omega
         case rel => exact ⟨(t147), (wrap64 (x75_2 + 1)), q_, q_, H', ⟨by have := HJ2.out; have := HK2.out; omega⟩, ⟨K_ BK141.out⟩, ⟨B2_ HB.out GE141.out GE146.out⟩⟩
        ·replace c36 := Bool.eq_false_iff.mpr c36
         subst c36
         have H1 : (impl_opticFormed.l0 k2 false l0_3 (l0_3.length : Int) (wrap64 (x75_2 + 1))) = some r := by rw [if_neg (show ¬ (false = true) by decide)] at H; exact H
         clear H
         have H := H1
         clear H1
         have H' := Aside0.mk H
         clear H
         have p145 : 0 ≤ (x75_2 : Int) := de_
         have q145 : x75_2 < (l0_3.length : Int) := de_
         obtain ⟨ad145, A145_3, c145_3, e145, hx145_0, hx145_1, hx145_2, hx145_3, hl145_3, hi145_3⟩ := at_T29 HR0_3.out x75_2 p145 q145
         cases e145
         replace hx145_0 := (HB.out.cell (World.block_lt_of_cell? w _ hx145_0)).trans hx145_0
         replace hx145_1 := (HB.out.cell (World.block_lt_of_cell? w _ hx145_1)).trans hx145_1
         replace hx145_2 := (HB.out.cell (World.block_lt_of_cell? w _ hx145_2)).trans hx145_2
         replace hx145_3 := (HB.out.cell (World.block_lt_of_cell? w _ hx145_3)).trans hx145_3
         have HR145_3 := Aside0.mk hi145_3
         have HC145_3 := Aside0.mk hl145_3
         clear hi145_3 hl145_3
         replace p145 := eq_true p145
         replace q145 := eq_true q145
         go_wp2_with (first | ((with_reducible refine gate_dst (N := 5) rfl ?_); refine box_event ?hg (N := 5) ?hd (cs := #[.int .i64 0, .string (⟨#[]⟩ : ByteArray), .int .i64 0, .slice none 0 0]) (t := 29) ?hr ?_; (case hd => rfl); (case hg => rfl); (case hr => first | (go_simp; done) | (go_simp; rfl)); intro gb146 hg w42 hbox hb; have BK146 := Aside0.mk (hbox); have GW146 := Aside0.mk ((by rw [hg]; exact (below_size (B1_ HB.out GE141.out)) : w.heap.size ≤ gb146)); have GE146 := Aside0.mk ((by rw [hg]; exact (below_size (B1_ HB.out GE141.out)) : w.heap.size ≤ gb146)); replace HB := Aside0.mk (below_step (B1_ HB.out GE141.out) hb); have NB141_146 := Aside0.mk ((by rw [hg]; exact Nat.ne_of_lt (blk_lt (K_ BK141.out)) : gb141 ≠ gb146)); have NB146_141 := Aside0.mk ((by rw [hg]; exact Nat.ne_of_gt (blk_lt (K_ BK141.out)) : gb146 ≠ gb141)); replace BK141 := Aside0.mk (blk_below (K_ BK141.out) hb); clear hb hbox hg; have hnb43 := NB146_141.out; have hnc43 := NB141_146.out; obtain ⟨hcz44_0, hcz44_1, hcz44_2, hcz44_3, hfz44_0, hfz44_1, hfz44_2, hfz44_3⟩ := box4_ BK146.out))
         repeat (go_quiet (first | ((with_reducible refine gate_dst (N := 5) rfl ?_); refine box_event ?hg (N := 5) ?hd (cs := #[.int .i64 0, .string (⟨#[]⟩ : ByteArray), .int .i64 0, .slice none 0 0]) (t := 29) ?hr ?_; (case hd => rfl); (case hg => rfl); (case hr => first | (go_simp; done) | (go_simp; rfl)); intro gb146 hg w42 hbox hb; have BK146 := Aside0.mk (hbox); have GW146 := Aside0.mk ((by rw [hg]; exact (below_size (B1_ HB.out GE141.out)) : w.heap.size ≤ gb146)); have GE146 := Aside0.mk ((by rw [hg]; exact (below_size (B1_ HB.out GE141.out)) : w.heap.size ≤ gb146)); replace HB := Aside0.mk (below_step (B1_ HB.out GE141.out) hb); have NB141_146 := Aside0.mk ((by rw [hg]; exact Nat.ne_of_lt (blk_lt (K_ BK141.out)) : gb141 ≠ gb146)); have NB146_141 := Aside0.mk ((by rw [hg]; exact Nat.ne_of_gt (blk_lt (K_ BK141.out)) : gb146 ≠ gb141)); replace BK141 := Aside0.mk (blk_below (K_ BK141.out) hb); clear hb hbox hg; have hnb43 := NB146_141.out; have hnc43 := NB141_146.out; obtain ⟨hcz44_0, hcz44_1, hcz44_2, hcz44_3, hfz44_0, hfz44_1, hfz44_2, hfz44_3⟩ := box4_ BK146.out)); try go_wp2_with (first | ((with_reducible refine gate_dst (N := 5) rfl ?_); refine box_event ?hg (N := 5) ?hd (cs := #[.int .i64 0, .string (⟨#[]⟩ : ByteArray), .int .i64 0, .slice none 0 0]) (t := 29) ?hr ?_; (case hd => rfl); (case hg => rfl); (case hr => first | (go_simp; done) | (go_simp; rfl)); intro gb146 hg w42 hbox hb; have BK146 := Aside0.mk (hbox); have GW146 := Aside0.mk ((by rw [hg]; exact (below_size (B1_ HB.out GE141.out)) : w.heap.size ≤ gb146)); have GE146 := Aside0.mk ((by rw [hg]; exact (below_size (B1_ HB.out GE141.out)) : w.heap.size ≤ gb146)); replace HB := Aside0.mk (below_step (B1_ HB.out GE141.out) hb); have NB141_146 := Aside0.mk ((by rw [hg]; exact Nat.ne_of_lt (blk_lt (K_ BK141.out)) : gb141 ≠ gb146)); have NB146_141 := Aside0.mk ((by rw [hg]; exact Nat.ne_of_gt (blk_lt (K_ BK141.out)) : gb146 ≠ gb141)); replace BK141 := Aside0.mk (blk_below (K_ BK141.out) hb); clear hb hbox hg; have hnb43 := NB146_141.out; have hnc43 := NB141_146.out; obtain ⟨hcz44_0, hcz44_1, hcz44_2, hcz44_3, hfz44_0, hfz44_1, hfz44_2, hfz44_3⟩ := box4_ BK146.out)))
         go_roundg k2
         case measure => have := HJ2.out; have := HK2.out; omega
         case rel => exact ⟨(false), (wrap64 (x75_2 + 1)), q_, q_, H', ⟨by have := HJ2.out; have := HK2.out; omega⟩, ⟨by (with_reducible repeat (first | refine blk_drewN ?_ _ | refine blk_drew ?_ | refine blk_alloc ?_ _)); refine blk_far ?_ NB141_146.out _; (with_reducible repeat (first | refine blk_drewN ?_ _ | refine blk_drew ?_ | refine blk_alloc ?_ _)); refine blk_far ?_ NB141_146.out _; (with_reducible repeat (first | refine blk_drewN ?_ _ | refine blk_drew ?_ | refine blk_alloc ?_ _)); refine blk_far ?_ NB141_146.out _; (with_reducible repeat (first | refine blk_drewN ?_ _ | refine blk_drew ?_ | refine blk_alloc ?_ _)); refine blk_far ?_ NB141_146.out _; (with_reducible repeat (first | refine blk_drewN ?_ _ | refine blk_drew ?_ | refine blk_alloc ?_ _)); exact BK141.out⟩, ⟨B2_ HB.out GE141.out GE146.out⟩⟩
       ·rw [if_neg c35] at H
        exact absurd H (by simp)
      ·rw [if_neg c34] at H
       exact absurd H (by simp)
     ·rw [if_neg c33] at H
      have c33b0 : decide (x75_2 < (l0_3.length : Int)) = false := decide_eq_false c33
      clear c33
      obtain rfl := Option.some.inj H
      go_wp2
      repeat (go_quiet (fail); try go_wp2)
      go_ret
      exact ⟨er_, B1_ HB.out GE141.out⟩

end Go.Proofs.Ytibcndpadbipmaa.XF
