-- Written by myprint.py, a program of this session, which runs the kit's printer with changes of its own. Lean checks it.
import Derived.Test.YtmelflbbeecjfaaXBx0
import Derived.Test.YtmelflbbeecjfaaXBx15
import Derived.Test.YtmelflbbeecjfaaSq
namespace Go.Proofs.Ytmelflbbeecjfaa.XB
open Go.RowKit Go.Proofs.YtmelflbbeecjfaaW.PrintWords Go.Proofs.YtmelflbbeecjfaaW.PrintLast Go.Proofs.YtmelflbbeecjfaaW.PrintMore Go.Proofs.Ytmelflbbeecjfaa.Sq
attribute [local go_sem] max2_int min2_int max_two min_two max_three min_three max_four min_four   -- for this text's walks alone
set_option linter.unusedVariables false
set_option linter.unusedSimpArgs false

/-! ### impl_ofType: function 69 -/
mutual
def impl_ofType.j0 : Nat → Bool → Int → Int → ByteArray → List ByteArray → List (S30) → Int → List ByteArray → List (S44) → Option (Bool)
 | 0, _, _, _, _, _, _, _, _, _ => none
 | k + 1, x34, x272000, x272001, x272002, x272003, x272004, x273000, x273001, x273002 => if x34 = true then (some false) else (impl_ofType.l0 k x272004 (x272004.length : Int) 0 x273000 x273001 x273002)
def impl_ofType.l0 : Nat → List (S30) → Int → Int → Int → List ByteArray → List (S44) → Option (Bool)
 | 0, _, _, _, _, _, _ => none
 | k + 1, x36, x37, x38, x273000, x273001, x273002 => if x38 < x37 then (if 0 ≤ x38 then (if x38 < (x36.length : Int) then (if x38 < (x273002.length : Int) then ((impl_ofType.f k ((rd_T30 x36 x38).f0) ((rd_T30 x36 x38).f1) ((rd_T30 x36 x38).f2) ((rd_T30 x36 x38).f3) ((rd_T30 x36 x38).f4) ((rd_T44 x273002 x38).f0) ((rd_T44 x273002 x38).f1) ((rd_T44 x273002 x38).f2)).bind fun t277 => (if t277 = true then (impl_ofType.l0 k x36 x37 (wrap64 (x38 + 1)) x273000 x273001 x273002) else (some false))) else (none)) else (none)) else (none)) else (some true)
def impl_ofType.l1 : Nat → List (S30) → Int → Int → Int → List ByteArray → List (S44) → Option (Bool)
 | 0, _, _, _, _, _, _ => none
 | k + 1, x82, x83, x84, x273000, x273001, x273002 => if x84 < x83 then (if 0 ≤ x84 then (if x84 < (x82.length : Int) then (if 0 < (x273002.length : Int) then ((impl_ofType.f k ((rd_T30 x82 x84).f0) ((rd_T30 x82 x84).f1) ((rd_T30 x82 x84).f2) ((rd_T30 x82 x84).f3) ((rd_T30 x82 x84).f4) ((rd_T44 x273002 0).f0) ((rd_T44 x273002 0).f1) ((rd_T44 x273002 0).f2)).bind fun t285 => (if t285 = true then (impl_ofType.l1 k x82 x83 (wrap64 (x84 + 1)) x273000 x273001 x273002) else (some false))) else (none)) else (none)) else (none)) else (some true)
def impl_ofType.f : Nat → Int → Int → ByteArray → List ByteArray → List (S30) → Int → List ByteArray → List (S44) → Option (Bool)
 | 0, _, _, _, _, _, _, _, _ => none
 | k + 1, a0_0, a0_1, a0_2, l0_3, l0_4, a1_0, l1_1, l1_2 => if a1_0 = 1 then (some (a0_0 == 1)) else (if a1_0 = 2 then (some (a0_0 == 2)) else (if a1_0 = 3 then (if a0_0 = 3 then ((impl_sameStrings.f k l0_3 l1_1).bind fun t273 => (impl_ofType.j0 k (!t273) a0_0 a0_1 a0_2 l0_3 l0_4 a1_0 l1_1 l1_2)) else (impl_ofType.j0 k true a0_0 a0_1 a0_2 l0_3 l0_4 a1_0 l1_1 l1_2)) else (if a1_0 = 4 then ((impl_IndexOf.f k l1_1 a0_2).bind fun t278 => (if a0_0 = 4 then (if t278 ≥ 0 then (if 0 < (l0_4.length : Int) then (if 0 ≤ t278 then (if t278 < (l1_2.length : Int) then ((impl_ofType.f k ((rd_T30 l0_4 0).f0) ((rd_T30 l0_4 0).f1) ((rd_T30 l0_4 0).f2) ((rd_T30 l0_4 0).f3) ((rd_T30 l0_4 0).f4) ((rd_T44 l1_2 t278).f0) ((rd_T44 l1_2 t278).f1) ((rd_T44 l1_2 t278).f2)).bind fun t281 => (some t281)) else (none)) else (none)) else (none)) else (some false)) else (some false))) else (if a0_0 = 5 then (impl_ofType.l1 k l0_4 (l0_4.length : Int) 0 a1_0 l1_1 l1_2) else (some false)))))
end
theorem impl_ofType.mono_l : ∀ k, (∀ y0 y1 y2 y3 y4 y5 y6 y7, LeO (impl_ofType.f k y0 y1 y2 y3 y4 y5 y6 y7) (impl_ofType.f (k + 1) y0 y1 y2 y3 y4 y5 y6 y7)) ∧ (∀ y0 y1 y2 y3 y4 y5 y6 y7 y8, LeO (impl_ofType.j0 k y0 y1 y2 y3 y4 y5 y6 y7 y8) (impl_ofType.j0 (k + 1) y0 y1 y2 y3 y4 y5 y6 y7 y8)) ∧ (∀ y0 y1 y2 y3 y4 y5, LeO (impl_ofType.l0 k y0 y1 y2 y3 y4 y5) (impl_ofType.l0 (k + 1) y0 y1 y2 y3 y4 y5)) ∧ (∀ y0 y1 y2 y3 y4 y5, LeO (impl_ofType.l1 k y0 y1 y2 y3 y4 y5) (impl_ofType.l1 (k + 1) y0 y1 y2 y3 y4 y5))
 | 0 => ⟨fun _ _ _ _ _ _ _ _ r h => by simp [impl_ofType.f] at h, fun _ _ _ _ _ _ _ _ _ r h => by simp [impl_ofType.j0] at h, fun _ _ _ _ _ _ r h => by simp [impl_ofType.l0] at h, fun _ _ _ _ _ _ r h => by simp [impl_ofType.l1] at h⟩
 | k + 1 => by
  obtain ⟨ih0, ih1, ih2, ih3⟩ := impl_ofType.mono_l k
  refine ⟨?_, ?_, ?_, ?_⟩
  ·intro y0 y1 y2 y3 y4 y5 y6 y7
   unfold impl_ofType.f
   repeat' first
   | (with_reducible exact ih0 _ _ _ _ _ _ _ _)
   | (with_reducible exact ih1 _ _ _ _ _ _ _ _ _)
   | (with_reducible exact ih2 _ _ _ _ _ _)
   | (with_reducible exact ih3 _ _ _ _ _ _)
   | (with_reducible exact impl_IndexOf.mono _ _ _)
   | (with_reducible exact impl_sameStrings.mono _ _ _)
   | (with_reducible exact LeO.refl _)
   | (with_reducible exact LeO.none _)
   | (with_reducible refine LeO.ite ?_ ?_)
   | (with_reducible refine LeO.bind ?_ (fun _ => ?_))
   | exact ih0 _ _ _ _ _ _ _ _
   | exact ih1 _ _ _ _ _ _ _ _ _
   | exact ih2 _ _ _ _ _ _
   | exact ih3 _ _ _ _ _ _
   | exact impl_IndexOf.mono _ _ _
   | exact impl_sameStrings.mono _ _ _
   | exact LeO.none _
   | refine LeO.ite ?_ ?_
   | refine LeO.bind ?_ (fun _ => ?_)
  ·intro y0 y1 y2 y3 y4 y5 y6 y7 y8
   unfold impl_ofType.j0
   repeat' first
   | (with_reducible exact ih0 _ _ _ _ _ _ _ _)
   | (with_reducible exact ih1 _ _ _ _ _ _ _ _ _)
   | (with_reducible exact ih2 _ _ _ _ _ _)
   | (with_reducible exact ih3 _ _ _ _ _ _)
   | (with_reducible exact impl_IndexOf.mono _ _ _)
   | (with_reducible exact impl_sameStrings.mono _ _ _)
   | (with_reducible exact LeO.refl _)
   | (with_reducible exact LeO.none _)
   | (with_reducible refine LeO.ite ?_ ?_)
   | (with_reducible refine LeO.bind ?_ (fun _ => ?_))
   | exact ih0 _ _ _ _ _ _ _ _
   | exact ih1 _ _ _ _ _ _ _ _ _
   | exact ih2 _ _ _ _ _ _
   | exact ih3 _ _ _ _ _ _
   | exact impl_IndexOf.mono _ _ _
   | exact impl_sameStrings.mono _ _ _
   | exact LeO.none _
   | refine LeO.ite ?_ ?_
   | refine LeO.bind ?_ (fun _ => ?_)
  ·intro y0 y1 y2 y3 y4 y5
   unfold impl_ofType.l0
   repeat' first
   | (with_reducible exact ih0 _ _ _ _ _ _ _ _)
   | (with_reducible exact ih1 _ _ _ _ _ _ _ _ _)
   | (with_reducible exact ih2 _ _ _ _ _ _)
   | (with_reducible exact ih3 _ _ _ _ _ _)
   | (with_reducible exact impl_IndexOf.mono _ _ _)
   | (with_reducible exact impl_sameStrings.mono _ _ _)
   | (with_reducible exact LeO.refl _)
   | (with_reducible exact LeO.none _)
   | (with_reducible refine LeO.ite ?_ ?_)
   | (with_reducible refine LeO.bind ?_ (fun _ => ?_))
   | exact ih0 _ _ _ _ _ _ _ _
   | exact ih1 _ _ _ _ _ _ _ _ _
   | exact ih2 _ _ _ _ _ _
   | exact ih3 _ _ _ _ _ _
   | exact impl_IndexOf.mono _ _ _
   | exact impl_sameStrings.mono _ _ _
   | exact LeO.none _
   | refine LeO.ite ?_ ?_
   | refine LeO.bind ?_ (fun _ => ?_)
  ·intro y0 y1 y2 y3 y4 y5
   unfold impl_ofType.l1
   repeat' first
   | (with_reducible exact ih0 _ _ _ _ _ _ _ _)
   | (with_reducible exact ih1 _ _ _ _ _ _ _ _ _)
   | (with_reducible exact ih2 _ _ _ _ _ _)
   | (with_reducible exact ih3 _ _ _ _ _ _)
   | (with_reducible exact impl_IndexOf.mono _ _ _)
   | (with_reducible exact impl_sameStrings.mono _ _ _)
   | (with_reducible exact LeO.refl _)
   | (with_reducible exact LeO.none _)
   | (with_reducible refine LeO.ite ?_ ?_)
   | (with_reducible refine LeO.bind ?_ (fun _ => ?_))
   | exact ih0 _ _ _ _ _ _ _ _
   | exact ih1 _ _ _ _ _ _ _ _ _
   | exact ih2 _ _ _ _ _ _
   | exact ih3 _ _ _ _ _ _
   | exact impl_IndexOf.mono _ _ _
   | exact impl_sameStrings.mono _ _ _
   | exact LeO.none _
   | refine LeO.ite ?_ ?_
   | refine LeO.bind ?_ (fun _ => ?_)
theorem impl_ofType.mono : ∀ a0 a1 a2 a3 a4 a5 a6 a7 k, LeO (impl_ofType.f k a0 a1 a2 a3 a4 a5 a6 a7) (impl_ofType.f (k + 1) a0 a1 a2 a3 a4 a5 a6 a7) := by
 intro a0 a1 a2 a3 a4 a5 a6 a7 k
 obtain ⟨ih0, ih1, ih2, ih3⟩ := impl_ofType.mono_l k
 exact ih0 a0 a1 a2 a3 a4 a5 a6 a7
def impl_ofType.T12 : Bool × List (List Nat × List Nat) := (true, [([], []), ([], []), ([1], [1]), ([], []), ([2, 3], [2, 3]), ([4], [4]), ([0, 5], [0, 5]), ([6], [6])])
def impl_ofType.B12 : List Nat := [0, 0, 2, 0, 14, 30, 63, 127]
theorem impl_ofType.tab12 : rtab .any (opsOf Try.f69 12) = impl_ofType.T12 := by kernel_rfl
theorem impl_ofType.bits12 : waitsOk impl_ofType.T12.2 impl_ofType.B12 = true := by kernel_rfl
def impl_ofType.T18 : Bool × List (List Nat × List Nat) := (true, [([], []), ([0], [0]), ([1], [1]), ([2], [2]), ([3], [3]), ([4, 3], [3, 4]), ([3, 5], [3, 5]), ([6, 3], [6]), ([7], [7]), ([8, 7], [7, 8]), ([9, 7], [7, 9]), ([10, 7], [7, 10]), ([7], [7]), ([12, 7], [7, 12]), ([7], [7]), ([13, 14, 7], [7, 13, 14]), ([15, 7], [7, 15]), ([11, 16, 7, 7], [7, 11, 16]), ([7, 17], [7, 17]), ([18, 17, 0, 1, 2, 3, 4, 5, 6, 7, 8, 9, 10, 11, 12, 13, 14, 15, 16, 17, 18], [18])])
def impl_ofType.B18 : List Nat := [0, 1, 3, 7, 15, 31, 63, 127, 255, 511, 1023, 2047, 255, 4351, 255, 28927, 61695, 131071, 262143, 524287]
theorem impl_ofType.tab18 : rtab .any (opsOf Try.f69 18) = impl_ofType.T18 := by kernel_rfl
theorem impl_ofType.bits18 : waitsOk impl_ofType.T18.2 impl_ofType.B18 = true := by kernel_rfl
set_option maxHeartbeats 8000000 in
set_option maxRecDepth 100000 in
theorem impl_ofType.calls (k : Nat) : ∀ (a0_0 : Int) (a0_1 : Int) (a0_2 : ByteArray) (A0_3 : Option Addr) (c0_3 : Nat) (l0_3 : List ByteArray) (A0_4 : Option Addr) (c0_4 : Nat) (l0_4 : List (S30)) (a1_0 : Int) (A1_1 : Option Addr) (c1_1 : Nat) (l1_1 : List ByteArray) (A1_2 : Option Addr) (c1_2 : Nat) (l1_2 : List (S44)) (r : Bool) (w : World) (hr0_3 : Kd.C Kd.string w A0_3 l0_3.length l0_3) (hc0_3 : l0_3.length ≤ c0_3) (hr0_4 : Kd.C k30 w A0_4 l0_4.length l0_4) (hc0_4 : l0_4.length ≤ c0_4) (hr1_1 : Kd.C Kd.string w A1_1 l1_1.length l1_1) (hc1_1 : l1_1.length ≤ c1_1) (hr1_2 : Kd.C k44 w A1_2 l1_2.length l1_2) (hc1_2 : l1_2.length ≤ c1_2) (h : impl_ofType.f k a0_0 a0_1 a0_2 l0_3 l0_4 a1_0 l1_1 l1_2 = some r),
  Calls Try.prog 69 #[.agg #[.int .i64 a0_0, .int .i64 a0_1, .string a0_2, .slice A0_3 l0_3.length c0_3, .slice A0_4 l0_4.length c0_4], .agg #[.int .i64 a1_0, .slice A1_1 l1_1.length c1_1, .slice A1_2 l1_2.length c1_2]] w fun e w' => e = .returned (.bool r) ∧ Below w.heap.size w w' := by
 induction k using Nat.strongRecOn with
 | _ k ih =>
 intro a0_0 a0_1 a0_2 A0_3 c0_3 l0_3 A0_4 c0_4 l0_4 a1_0 A1_1 c1_1 l1_1 A1_2 c1_2 l1_2 r w hr0_3 hc0_3 hr0_4 hc0_4 hr1_1 hc1_1 hr1_2 hc1_2 h
 cases k with
 | zero => exact absurd h (by simp [impl_ofType.f])
 | succ k =>
 simp only [impl_ofType.f] at h
 have hu30 := Try.underlying30
 have hu44 := Try.underlying44
 have HR0_3 := Aside0.mk hr0_3
 have HC0_3 := Aside0.mk hc0_3
 clear hr0_3 hc0_3
 have HR0_4 := Aside0.mk hr0_4
 have HC0_4 := Aside0.mk hc0_4
 clear hr0_4 hc0_4
 have HR1_1 := Aside0.mk hr1_1
 have HC1_1 := Aside0.mk hc1_1
 clear hr1_1 hc1_1
 have HR1_2 := Aside0.mk hr1_2
 have HC1_2 := Aside0.mk hc1_2
 clear hr1_2 hc1_2
 have HB := Aside0.mk (Below.refl w.heap.size w)
 have H : (if a1_0 = 1 then (some (a0_0 == 1)) else (if a1_0 = 2 then (some (a0_0 == 2)) else (if a1_0 = 3 then (if a0_0 = 3 then ((impl_sameStrings.f k l0_3 l1_1).bind fun t273 => (impl_ofType.j0 k (!t273) a0_0 a0_1 a0_2 l0_3 l0_4 a1_0 l1_1 l1_2)) else (impl_ofType.j0 k true a0_0 a0_1 a0_2 l0_3 l0_4 a1_0 l1_1 l1_2)) else (if a1_0 = 4 then ((impl_IndexOf.f k l1_1 a0_2).bind fun t278 => (if a0_0 = 4 then (if t278 ≥ 0 then (if 0 < (l0_4.length : Int) then (if 0 ≤ t278 then (if t278 < (l1_2.length : Int) then ((impl_ofType.f k ((rd_T30 l0_4 0).f0) ((rd_T30 l0_4 0).f1) ((rd_T30 l0_4 0).f2) ((rd_T30 l0_4 0).f3) ((rd_T30 l0_4 0).f4) ((rd_T44 l1_2 t278).f0) ((rd_T44 l1_2 t278).f1) ((rd_T44 l1_2 t278).f2)).bind fun t281 => (some t281)) else (none)) else (none)) else (none)) else (some false)) else (some false))) else (if a0_0 = 5 then (impl_ofType.l1 k l0_4 (l0_4.length : Int) 0 a1_0 l1_1 l1_2) else (some false)))))) = some r := h
 clear h
 by_cases c3 : a1_0 = 1
 ·rw [if_pos c3] at H
  have c3b0 : (a1_0 == 1) = true := beq_iff_eq.mpr c3
  have c3b1 : (a1_0 != 1) = false := bne_eq_false_iff_eq.mpr c3
  clear c3
  obtain rfl := Option.some.inj H
  go_enter Try.func69, Try.ntmps69
  go_wp2_with (first | ((with_reducible refine gate_dst (N := 2) rfl ?_); refine box_event ?hg (N := 2) ?hd (cs := #[.int .i64 a0_0, .int .i64 a0_1, .string a0_2, .slice A0_3 l0_3.length c0_3, .slice A0_4 l0_4.length c0_4]) (t := 30) ?hr ?_; (case hd => rfl); (case hg => rfl); (case hr => first | (go_simp; done) | (go_simp; rfl)); intro gb271 hg w4 hbox hb; have BK271 := Aside0.mk (hbox); have GW271 := Aside0.mk ((by rw [hg]; exact (below_size (B0_ HB.out)) : w.heap.size ≤ gb271)); have GE271 := Aside0.mk ((by rw [hg]; exact (below_size (B0_ HB.out)) : w.heap.size ≤ gb271)); replace HB := Aside0.mk (below_step (B0_ HB.out) hb); clear hb hbox hg) | ((with_reducible refine gate_dst (N := 3) rfl ?_); refine box_event ?hg (N := 3) ?hd (cs := #[.int .i64 a1_0, .slice A1_1 l1_1.length c1_1, .slice A1_2 l1_2.length c1_2]) (t := 44) ?hr ?_; (case hd => rfl); (case hg => rfl); (case hr => first | (go_simp; done) | (go_simp; rfl)); intro gb272 hg w5 hbox hb; have BK272 := Aside0.mk (hbox); have GW272 := Aside0.mk ((by rw [hg]; exact (below_size (B1_ HB.out GE271.out)) : w.heap.size ≤ gb272)); have GE272 := Aside0.mk ((by rw [hg]; exact (below_size (B1_ HB.out GE271.out)) : w.heap.size ≤ gb272)); replace HB := Aside0.mk (below_step (B1_ HB.out GE271.out) hb); have NB271_272 := Aside0.mk ((by rw [hg]; exact Nat.ne_of_lt (blk_lt (K_ BK271.out)) : gb271 ≠ gb272)); have NB272_271 := Aside0.mk ((by rw [hg]; exact Nat.ne_of_gt (blk_lt (K_ BK271.out)) : gb272 ≠ gb271)); replace BK271 := Aside0.mk (blk_below (K_ BK271.out) hb); clear hb hbox hg; have hnb6 := NB272_271.out; have hnc6 := NB271_272.out; obtain ⟨hcz7_0, hcz7_1, hcz7_2, hfz7_0, hfz7_1, hfz7_2⟩ := box3_ BK272.out; obtain ⟨hcz8_0, hcz8_1, hcz8_2, hcz8_3, hcz8_4, hfz8_0, hfz8_1, hfz8_2, hfz8_3, hfz8_4⟩ := box5_ BK271.out))
  go_ret
  exact ⟨er_, B2_ HB.out GE271.out GE272.out⟩
 ·rw [if_neg c3] at H
  have c3b0 : (a1_0 == 1) = false := beq_eq_false_iff_ne.mpr c3
  have c3b1 : (a1_0 != 1) = true := bne_iff_ne.mpr c3
  by_cases c9 : a1_0 = 2
  ·rw [if_pos c9] at H
   have c9b0 : (a1_0 == 2) = true := beq_iff_eq.mpr c9
   have c9b1 : (a1_0 != 2) = false := bne_eq_false_iff_eq.mpr c9
   clear c9
   obtain rfl := Option.some.inj H
   go_enter Try.func69, Try.ntmps69
   go_wp2_with (first | ((with_reducible refine gate_dst (N := 2) rfl ?_); refine box_event ?hg (N := 2) ?hd (cs := #[.int .i64 a0_0, .int .i64 a0_1, .string a0_2, .slice A0_3 l0_3.length c0_3, .slice A0_4 l0_4.length c0_4]) (t := 30) ?hr ?_; (case hd => rfl); (case hg => rfl); (case hr => first | (go_simp; done) | (go_simp; rfl)); intro gb271 hg w10 hbox hb; have BK271 := Aside0.mk (hbox); have GW271 := Aside0.mk ((by rw [hg]; exact (below_size (B0_ HB.out)) : w.heap.size ≤ gb271)); have GE271 := Aside0.mk ((by rw [hg]; exact (below_size (B0_ HB.out)) : w.heap.size ≤ gb271)); replace HB := Aside0.mk (below_step (B0_ HB.out) hb); clear hb hbox hg) | ((with_reducible refine gate_dst (N := 3) rfl ?_); refine box_event ?hg (N := 3) ?hd (cs := #[.int .i64 a1_0, .slice A1_1 l1_1.length c1_1, .slice A1_2 l1_2.length c1_2]) (t := 44) ?hr ?_; (case hd => rfl); (case hg => rfl); (case hr => first | (go_simp; done) | (go_simp; rfl)); intro gb272 hg w11 hbox hb; have BK272 := Aside0.mk (hbox); have GW272 := Aside0.mk ((by rw [hg]; exact (below_size (B1_ HB.out GE271.out)) : w.heap.size ≤ gb272)); have GE272 := Aside0.mk ((by rw [hg]; exact (below_size (B1_ HB.out GE271.out)) : w.heap.size ≤ gb272)); replace HB := Aside0.mk (below_step (B1_ HB.out GE271.out) hb); have NB271_272 := Aside0.mk ((by rw [hg]; exact Nat.ne_of_lt (blk_lt (K_ BK271.out)) : gb271 ≠ gb272)); have NB272_271 := Aside0.mk ((by rw [hg]; exact Nat.ne_of_gt (blk_lt (K_ BK271.out)) : gb272 ≠ gb271)); replace BK271 := Aside0.mk (blk_below (K_ BK271.out) hb); clear hb hbox hg; have hnb12 := NB272_271.out; have hnc12 := NB271_272.out; obtain ⟨hcz13_0, hcz13_1, hcz13_2, hfz13_0, hfz13_1, hfz13_2⟩ := box3_ BK272.out; obtain ⟨hcz14_0, hcz14_1, hcz14_2, hcz14_3, hcz14_4, hfz14_0, hfz14_1, hfz14_2, hfz14_3, hfz14_4⟩ := box5_ BK271.out))
   go_ret
   exact ⟨er_, B2_ HB.out GE271.out GE272.out⟩
  ·rw [if_neg c9] at H
   have c9b0 : (a1_0 == 2) = false := beq_eq_false_iff_ne.mpr c9
   have c9b1 : (a1_0 != 2) = true := bne_iff_ne.mpr c9
   by_cases c15 : a1_0 = 3
   ·rw [if_pos c15] at H
    have c15b0 : (a1_0 == 3) = true := beq_iff_eq.mpr c15
    have c15b1 : (a1_0 != 3) = false := bne_eq_false_iff_eq.mpr c15
    clear c15
    have HC16 := Aside0.mk H
    clear H
    go_enter Try.func69, Try.ntmps69
    go_upto_region 7 with (first | ((with_reducible refine gate_dst (N := 2) rfl ?_); refine box_event ?hg (N := 2) ?hd (cs := #[.int .i64 a0_0, .int .i64 a0_1, .string a0_2, .slice A0_3 l0_3.length c0_3, .slice A0_4 l0_4.length c0_4]) (t := 30) ?hr ?_; (case hd => rfl); (case hg => rfl); (case hr => first | (go_simp; done) | (go_simp; rfl)); intro gb271 hg w17 hbox hb; have BK271 := Aside0.mk (hbox); have GW271 := Aside0.mk ((by rw [hg]; exact (below_size (B0_ HB.out)) : w.heap.size ≤ gb271)); have GE271 := Aside0.mk ((by rw [hg]; exact (below_size (B0_ HB.out)) : w.heap.size ≤ gb271)); replace HB := Aside0.mk (below_step (B0_ HB.out) hb); clear hb hbox hg) | ((with_reducible refine gate_dst (N := 3) rfl ?_); refine box_event ?hg (N := 3) ?hd (cs := #[.int .i64 a1_0, .slice A1_1 l1_1.length c1_1, .slice A1_2 l1_2.length c1_2]) (t := 44) ?hr ?_; (case hd => rfl); (case hg => rfl); (case hr => first | (go_simp; done) | (go_simp; rfl)); intro gb272 hg w18 hbox hb; have BK272 := Aside0.mk (hbox); have GW272 := Aside0.mk ((by rw [hg]; exact (below_size (B1_ HB.out GE271.out)) : w.heap.size ≤ gb272)); have GE272 := Aside0.mk ((by rw [hg]; exact (below_size (B1_ HB.out GE271.out)) : w.heap.size ≤ gb272)); replace HB := Aside0.mk (below_step (B1_ HB.out GE271.out) hb); have NB271_272 := Aside0.mk ((by rw [hg]; exact Nat.ne_of_lt (blk_lt (K_ BK271.out)) : gb271 ≠ gb272)); have NB272_271 := Aside0.mk ((by rw [hg]; exact Nat.ne_of_gt (blk_lt (K_ BK271.out)) : gb272 ≠ gb271)); replace BK271 := Aside0.mk (blk_below (K_ BK271.out) hb); clear hb hbox hg; have hnb19 := NB272_271.out; have hnc19 := NB271_272.out; obtain ⟨hcz20_0, hcz20_1, hcz20_2, hfz20_0, hfz20_1, hfz20_2⟩ := box3_ BK272.out))
    (try simp only [Act.put, List.setIfInBounds_toArray, List.set_cons_zero, List.set_cons_succ])
    go_cut [34] (fun v34 wc => ∃ (kq : Nat) (x34_15 : Bool), v34 = .bool x34_15 ∧ Aside0 (impl_ofType.j0 kq x34_15 a0_0 a0_1 a0_2 l0_3 l0_4 a1_0 l1_1 l1_2 = some r) ∧ Aside0 (kq ≤ k) ∧ Aside0 (wc.heap[gb271]? = some (.cells #[.int .i64 a0_0, .int .i64 a0_1, .string a0_2, (.slice A0_3 l0_3.length c0_3), (.slice A0_4 l0_4.length c0_4)] 30 (0, 0))) ∧ Aside0 (wc.heap[gb272]? = some (.cells #[.int .i64 a1_0, (.slice A1_1 l1_1.length c1_1), (.slice A1_2 l1_2.length c1_2)] 44 (0, 0))) ∧ Aside0 (Below w.heap.size w wc))
    case first =>
     have H := HC16.out
     clear HC16
     by_cases c21 : a0_0 = 3
     ·rw [if_pos c21] at H
      have c21b0 : (a0_0 == 3) = true := beq_iff_eq.mpr c21
      have c21b1 : (a0_0 != 3) = false := bne_eq_false_iff_eq.mpr c21
      clear c21
      (first | rw [c21b0] | (simp only [i64_w, i32_w]; rw [c21b0]) | skip)
      replace H := Option.bind_eq_some_iff.mp H
      obtain ⟨t273, A220, H⟩ := H
      replace H : (impl_ofType.j0 k (!t273) a0_0 a0_1 a0_2 l0_3 l0_4 a1_0 l1_1 l1_2) = some r := H
      have A22 := Aside0.mk A220
      clear A220
      have H' := Aside0.mk H
      clear H
      have hnb23 := NB271_272.out
      have hnc23 := NB272_271.out
      obtain ⟨hcz24_0, hcz24_1, hcz24_2, hcz24_3, hcz24_4, hfz24_0, hfz24_1, hfz24_2, hfz24_3, hfz24_4⟩ := box5_ BK271.out
      obtain ⟨hcz25_0, hcz25_1, hcz25_2, hfz25_0, hfz25_1, hfz25_2⟩ := box3_ BK272.out
      go_wp2_with (first | (go_at_call 50; (with_reducible refine (impl_sameStrings.calls k _ _ l0_3 _ _ l1_1 t273 _ ?side1 ?side2 ?side3 ?side4 A22.out).mono ?_); (case side1 => exact C_ (Kd.C_below HR0_3.out HB.out)); (case side2 => exact HC0_3.out); (case side3 => exact C_ (Kd.C_below HR1_1.out HB.out)); (case side4 => exact HC1_1.out); rintro e w' ⟨rfl, ⟨nd, rfl⟩⟩))
      go_meet
      case rel => exact ⟨_, (!t273), q_, H', ⟨le_⟩, ⟨K_ BK271.out⟩, ⟨K_ BK272.out⟩, ⟨B2_ HB.out GE271.out GE272.out⟩⟩
     ·rw [if_neg c21] at H
      have c21b0 : (a0_0 == 3) = false := beq_eq_false_iff_ne.mpr c21
      have c21b1 : (a0_0 != 3) = true := bne_iff_ne.mpr c21
      (first | rw [c21b0] | (simp only [i64_w, i32_w]; rw [c21b0]) | skip)
      have H' := Aside0.mk H
      clear H
      have hnb26 := NB271_272.out
      have hnc26 := NB272_271.out
      obtain ⟨hcz27_0, hcz27_1, hcz27_2, hcz27_3, hcz27_4, hfz27_0, hfz27_1, hfz27_2, hfz27_3, hfz27_4⟩ := box5_ BK271.out
      go_wp2
      go_meet
      case rel => exact ⟨_, (true), q_, H', ⟨le_⟩, ⟨K_ BK271.out⟩, ⟨K_ BK272.out⟩, ⟨B2_ HB.out GE271.out GE272.out⟩⟩
    case rest =>
     clear HC16
     try clear c3
     try clear c3b0
     try clear c3b1
     try clear c9
     try clear c9b0
     try clear c9b1
     try clear c15
     try clear c15b0
     try clear c15b1
     try clear hcz20_0
     try clear hcz20_1
     try clear hcz20_2
     try clear hfz20_0
     try clear hfz20_1
     try clear hfz20_2
     obtain ⟨kq, x34_15, rfl, HA, HJ15, BK271, BK272, HB⟩ := hcut
     cases kq with
     | zero => exact absurd HA.out (by simp [impl_ofType.j0])
     | succ kj15 =>
      have H := HA.out
      clear HA
      simp only [impl_ofType.j0] at H
      by_cases c28 : x34_15 = true
      ·subst c28
       have H1 : (some false) = some r := by rw [if_pos rfl] at H; exact H
       clear H
       have H := H1
       clear H1
       obtain rfl := Option.some.inj H
       go_wp2
       go_ret
       exact ⟨er_, B2_ HB.out GE271.out GE272.out⟩
      ·replace c28 := Bool.eq_false_iff.mpr c28
       subst c28
       have H1 : (impl_ofType.l0 kj15 l0_4 (l0_4.length : Int) 0 a1_0 l1_1 l1_2) = some r := by rw [if_neg (show ¬ (false = true) by decide)] at H; exact H
       clear H
       have H := H1
       clear H1
       have H' := Aside0.mk H
       clear H
       have hnb29 := NB271_272.out
       have hnc29 := NB272_271.out
       obtain ⟨hcz30_0, hcz30_1, hcz30_2, hcz30_3, hcz30_4, hfz30_0, hfz30_1, hfz30_2, hfz30_3, hfz30_4⟩ := box5_ BK271.out
       go_wp2
       go_loopg [38] kj15 (fun kq v38 w' => ∃ (x38_2 : Int), v38 = .int .i64 x38_2 ∧ Aside0 (impl_ofType.l0 kq l0_4 (l0_4.length : Int) x38_2 a1_0 l1_1 l1_2 = some r) ∧ Aside0 (kq ≤ kj15) ∧ Aside0 (w'.heap[gb271]? = some (.cells #[.int .i64 a0_0, .int .i64 a0_1, .string a0_2, (.slice A0_3 l0_3.length c0_3), (.slice A0_4 l0_4.length c0_4)] 30 (0, 0))) ∧ Aside0 (w'.heap[gb272]? = some (.cells #[.int .i64 a1_0, (.slice A1_1 l1_1.length c1_1), (.slice A1_2 l1_2.length c1_2)] 44 (0, 0))) ∧ Aside0 (Below w.heap.size w w'))
       case atStart => exact ⟨(0), q_, H', ⟨Nat.le_refl _⟩, ⟨K_ BK271.out⟩, ⟨K_ BK272.out⟩, ⟨B2_ HB.out GE271.out GE272.out⟩⟩
       case round =>
        clear H'
        try clear c3
        try clear c3b0
        try clear c3b1
        try clear c9
        try clear c9b0
        try clear c9b1
        try clear c15
        try clear c15b0
        try clear c15b1
        try clear c28
        try clear hcz20_0
        try clear hcz20_1
        try clear hcz20_2
        try clear hcz30_0
        try clear hcz30_1
        try clear hcz30_2
        try clear hcz30_3
        try clear hcz30_4
        try clear hfz20_0
        try clear hfz20_1
        try clear hfz20_2
        try clear hfz30_0
        try clear hfz30_1
        try clear hfz30_2
        try clear hfz30_3
        try clear hfz30_4
        obtain ⟨x38_2, rfl, HA, HK2, BK271, BK272, HB⟩ := hrel
        cases gk with
        | zero => exact absurd HA.out (by simp [impl_ofType.l0])
        | succ k2 =>
         have H := HA.out
         clear HA
         simp only [impl_ofType.l0] at H
         by_cases c31 : x38_2 < (l0_4.length : Int)
         ·rw [if_pos c31] at H
          have c31b0 : decide (x38_2 < (l0_4.length : Int)) = true := decide_eq_true c31
          clear c31
          by_cases c32 : 0 ≤ x38_2
          ·rw [if_pos c32] at H
           have c32b0 : decide (0 ≤ x38_2) = true := decide_eq_true c32
           clear c32
           by_cases c33 : x38_2 < (l0_4.length : Int)
           ·rw [if_pos c33] at H
            have c33b0 : decide (x38_2 < (l0_4.length : Int)) = true := decide_eq_true c33
            clear c33
            by_cases c34 : x38_2 < (l1_2.length : Int)
            ·rw [if_pos c34] at H
             have c34b0 : decide (x38_2 < (l1_2.length : Int)) = true := decide_eq_true c34
             clear c34
             replace H := Option.bind_eq_some_iff.mp H
             obtain ⟨t277, A350, H⟩ := H
             replace H : (if t277 = true then (impl_ofType.l0 k2 l0_4 (l0_4.length : Int) (wrap64 (x38_2 + 1)) a1_0 l1_1 l1_2) else (some false)) = some r := H
             have A35 := Aside0.mk A350
             clear A350
             by_cases c36 : t277 = true
             ·subst c36
              have H1 : (impl_ofType.l0 k2 l0_4 (l0_4.length : Int) (wrap64 (x38_2 + 1)) a1_0 l1_1 l1_2) = some r := by rw [if_pos rfl] at H; exact H
              clear H
              have H := H1
              clear H1
              have H' := Aside0.mk H
              clear H
              have p274 : 0 ≤ (x38_2 : Int) := de_
              have q274 : x38_2 < (l0_4.length : Int) := de_
              obtain ⟨ad274, A274_3, c274_3, A274_4, c274_4, e274, hx274_0, hx274_1, hx274_2, hx274_3, hx274_4, hl274_3, hi274_3, hl274_4, hi274_4⟩ := at_T30 HR0_4.out x38_2 p274 q274
              cases e274
              replace hx274_0 := (HB.out.cell (World.block_lt_of_cell? w _ hx274_0)).trans hx274_0
              replace hx274_1 := (HB.out.cell (World.block_lt_of_cell? w _ hx274_1)).trans hx274_1
              replace hx274_2 := (HB.out.cell (World.block_lt_of_cell? w _ hx274_2)).trans hx274_2
              replace hx274_3 := (HB.out.cell (World.block_lt_of_cell? w _ hx274_3)).trans hx274_3
              replace hx274_4 := (HB.out.cell (World.block_lt_of_cell? w _ hx274_4)).trans hx274_4
              have HR274_3 := Aside0.mk hi274_3
              have HC274_3 := Aside0.mk hl274_3
              clear hi274_3 hl274_3
              have HR274_4 := Aside0.mk hi274_4
              have HC274_4 := Aside0.mk hl274_4
              clear hi274_4 hl274_4
              replace p274 := eq_true p274
              replace q274 := eq_true q274
              try go_wp2_with (first | ((with_reducible refine gate_dst (N := 6) rfl ?_); refine box_event ?hg (N := 6) ?hd (cs := #[.int .i64 0, .int .i64 0, .string (⟨#[]⟩ : ByteArray), .slice none 0 0, .slice none 0 0]) (t := 30) ?hr ?_; (case hd => rfl); (case hg => rfl); (case hr => first | (go_simp; done) | (go_simp; rfl)); intro gb275 hg w37 hbox hb; have BK275 := Aside0.mk (hbox); have GW275 := Aside0.mk ((by rw [hg]; exact (below_size (B2_ HB.out GE271.out GE272.out)) : w.heap.size ≤ gb275)); have GE275 := Aside0.mk ((by rw [hg]; exact (below_size (B2_ HB.out GE271.out GE272.out)) : w.heap.size ≤ gb275)); replace HB := Aside0.mk (below_step (B2_ HB.out GE271.out GE272.out) hb); have NB271_275 := Aside0.mk ((by rw [hg]; exact Nat.ne_of_lt (blk_lt (K_ BK271.out)) : gb271 ≠ gb275)); have NB275_271 := Aside0.mk ((by rw [hg]; exact Nat.ne_of_gt (blk_lt (K_ BK271.out)) : gb275 ≠ gb271)); replace BK271 := Aside0.mk (blk_below (K_ BK271.out) hb); have NB272_275 := Aside0.mk ((by rw [hg]; exact Nat.ne_of_lt (blk_lt (K_ BK272.out)) : gb272 ≠ gb275)); have NB275_272 := Aside0.mk ((by rw [hg]; exact Nat.ne_of_gt (blk_lt (K_ BK272.out)) : gb275 ≠ gb272)); replace BK272 := Aside0.mk (blk_below (K_ BK272.out) hb); clear hb hbox hg; have hnb38 := NB275_271.out; have hnc38 := NB271_275.out; have hnb39 := NB275_272.out; have hnc39 := NB272_275.out; obtain ⟨hcz40_0, hcz40_1, hcz40_2, hcz40_3, hcz40_4, hfz40_0, hfz40_1, hfz40_2, hfz40_3, hfz40_4⟩ := box5_ BK275.out))
              have n0_ : Aside0 ((((((w37.setCell ⟨gb275, 0, none⟩ (.int .i64 ((rd_T30 l0_4 x38_2).f0))).setCell ⟨gb275, 1, none⟩ (.int .i64 ((rd_T30 l0_4 x38_2).f1))).setCell ⟨gb275, 2, none⟩ (.string ((rd_T30 l0_4 x38_2).f2))).setCell ⟨gb275, 3, none⟩ (.slice A274_3 ((rd_T30 l0_4 x38_2).f3).length c274_3)).setCell ⟨gb275, 4, none⟩ (.slice A274_4 ((rd_T30 l0_4 x38_2).f4).length c274_4)).heap[gb271]? = some (.cells #[.int .i64 a0_0, .int .i64 a0_1, .string a0_2, .slice A0_3 l0_3.length c0_3, .slice (some ad274) l0_4.length c0_4] 30 (0, 0))) := ⟨by (with_reducible repeat (first | refine blk_drewN ?_ _ | refine blk_drew ?_ | refine blk_alloc ?_ _)); refine blk_far ?_ NB271_275.out _; (with_reducible repeat (first | refine blk_drewN ?_ _ | refine blk_drew ?_ | refine blk_alloc ?_ _)); refine blk_far ?_ NB271_275.out _; (with_reducible repeat (first | refine blk_drewN ?_ _ | refine blk_drew ?_ | refine blk_alloc ?_ _)); refine blk_far ?_ NB271_275.out _; (with_reducible repeat (first | refine blk_drewN ?_ _ | refine blk_drew ?_ | refine blk_alloc ?_ _)); refine blk_far ?_ NB271_275.out _; (with_reducible repeat (first | refine blk_drewN ?_ _ | refine blk_drew ?_ | refine blk_alloc ?_ _)); refine blk_far ?_ NB271_275.out _; (with_reducible repeat (first | refine blk_drewN ?_ _ | refine blk_drew ?_ | refine blk_alloc ?_ _)); exact BK271.out⟩
              have n1_ : Aside0 ((((((w37.setCell ⟨gb275, 0, none⟩ (.int .i64 ((rd_T30 l0_4 x38_2).f0))).setCell ⟨gb275, 1, none⟩ (.int .i64 ((rd_T30 l0_4 x38_2).f1))).setCell ⟨gb275, 2, none⟩ (.string ((rd_T30 l0_4 x38_2).f2))).setCell ⟨gb275, 3, none⟩ (.slice A274_3 ((rd_T30 l0_4 x38_2).f3).length c274_3)).setCell ⟨gb275, 4, none⟩ (.slice A274_4 ((rd_T30 l0_4 x38_2).f4).length c274_4)).heap[gb272]? = some (.cells #[.int .i64 a1_0, .slice A1_1 l1_1.length c1_1, .slice A1_2 l1_2.length c1_2] 44 (0, 0))) := ⟨by (with_reducible repeat (first | refine blk_drewN ?_ _ | refine blk_drew ?_ | refine blk_alloc ?_ _)); refine blk_far ?_ NB272_275.out _; (with_reducible repeat (first | refine blk_drewN ?_ _ | refine blk_drew ?_ | refine blk_alloc ?_ _)); refine blk_far ?_ NB272_275.out _; (with_reducible repeat (first | refine blk_drewN ?_ _ | refine blk_drew ?_ | refine blk_alloc ?_ _)); refine blk_far ?_ NB272_275.out _; (with_reducible repeat (first | refine blk_drewN ?_ _ | refine blk_drew ?_ | refine blk_alloc ?_ _)); refine blk_far ?_ NB272_275.out _; (with_reducible repeat (first | refine blk_drewN ?_ _ | refine blk_drew ?_ | refine blk_alloc ?_ _)); refine blk_far ?_ NB272_275.out _; (with_reducible repeat (first | refine blk_drewN ?_ _ | refine blk_drew ?_ | refine blk_alloc ?_ _)); exact BK272.out⟩
              have n2_ : Aside0 ((((((w37.setCell ⟨gb275, 0, none⟩ (.int .i64 ((rd_T30 l0_4 x38_2).f0))).setCell ⟨gb275, 1, none⟩ (.int .i64 ((rd_T30 l0_4 x38_2).f1))).setCell ⟨gb275, 2, none⟩ (.string ((rd_T30 l0_4 x38_2).f2))).setCell ⟨gb275, 3, none⟩ (.slice A274_3 ((rd_T30 l0_4 x38_2).f3).length c274_3)).setCell ⟨gb275, 4, none⟩ (.slice A274_4 ((rd_T30 l0_4 x38_2).f4).length c274_4)).heap[gb275]? = some (.cells #[.int .i64 ((rd_T30 l0_4 x38_2).f0), .int .i64 ((rd_T30 l0_4 x38_2).f1), .string ((rd_T30 l0_4 x38_2).f2), .slice A274_3 ((rd_T30 l0_4 x38_2).f3).length c274_3, .slice A274_4 ((rd_T30 l0_4 x38_2).f4).length c274_4] 30 (0, 0))) := ⟨by (with_reducible repeat (first | refine blk_drewN ?_ _ | refine blk_drew ?_ | refine blk_alloc ?_ _)); refine blk_put (cs := #[.int .i64 ((rd_T30 l0_4 x38_2).f0), .int .i64 ((rd_T30 l0_4 x38_2).f1), .string ((rd_T30 l0_4 x38_2).f2), .slice A274_3 ((rd_T30 l0_4 x38_2).f3).length c274_3, .slice none 0 0]) ?_ 4 _ rfl; (with_reducible repeat (first | refine blk_drewN ?_ _ | refine blk_drew ?_ | refine blk_alloc ?_ _)); refine blk_put (cs := #[.int .i64 ((rd_T30 l0_4 x38_2).f0), .int .i64 ((rd_T30 l0_4 x38_2).f1), .string ((rd_T30 l0_4 x38_2).f2), .slice none 0 0, .slice none 0 0]) ?_ 3 _ rfl; (with_reducible repeat (first | refine blk_drewN ?_ _ | refine blk_drew ?_ | refine blk_alloc ?_ _)); refine blk_put (cs := #[.int .i64 ((rd_T30 l0_4 x38_2).f0), .int .i64 ((rd_T30 l0_4 x38_2).f1), .string (⟨#[]⟩ : ByteArray), .slice none 0 0, .slice none 0 0]) ?_ 2 _ rfl; (with_reducible repeat (first | refine blk_drewN ?_ _ | refine blk_drew ?_ | refine blk_alloc ?_ _)); refine blk_put (cs := #[.int .i64 ((rd_T30 l0_4 x38_2).f0), .int .i64 0, .string (⟨#[]⟩ : ByteArray), .slice none 0 0, .slice none 0 0]) ?_ 1 _ rfl; (with_reducible repeat (first | refine blk_drewN ?_ _ | refine blk_drew ?_ | refine blk_alloc ?_ _)); refine blk_put (cs := #[.int .i64 0, .int .i64 0, .string (⟨#[]⟩ : ByteArray), .slice none 0 0, .slice none 0 0]) ?_ 0 _ rfl; (with_reducible repeat (first | refine blk_drewN ?_ _ | refine blk_drew ?_ | refine blk_alloc ?_ _)); exact BK275.out⟩
              have n3_ : Aside0 (Below w.heap.size w (((((w37.setCell ⟨gb275, 0, none⟩ (.int .i64 ((rd_T30 l0_4 x38_2).f0))).setCell ⟨gb275, 1, none⟩ (.int .i64 ((rd_T30 l0_4 x38_2).f1))).setCell ⟨gb275, 2, none⟩ (.string ((rd_T30 l0_4 x38_2).f2))).setCell ⟨gb275, 3, none⟩ (.slice A274_3 ((rd_T30 l0_4 x38_2).f3).length c274_3)).setCell ⟨gb275, 4, none⟩ (.slice A274_4 ((rd_T30 l0_4 x38_2).f4).length c274_4))) := ⟨B3_ HB.out GE271.out GE272.out GE275.out⟩
              (try clear BK271)
              (try clear BK272)
              (try clear BK275)
              (try clear HB)
              generalize (((((w37.setCell ⟨gb275, 0, none⟩ (.int .i64 ((rd_T30 l0_4 x38_2).f0))).setCell ⟨gb275, 1, none⟩ (.int .i64 ((rd_T30 l0_4 x38_2).f1))).setCell ⟨gb275, 2, none⟩ (.string ((rd_T30 l0_4 x38_2).f2))).setCell ⟨gb275, 3, none⟩ (.slice A274_3 ((rd_T30 l0_4 x38_2).f3).length c274_3)).setCell ⟨gb275, 4, none⟩ (.slice A274_4 ((rd_T30 l0_4 x38_2).f4).length c274_4)) = w41 at n0_ n1_ n2_ n3_ ⊢
              have BK271 := n0_
              have BK272 := n1_
              have BK275 := n2_
              have HB := n3_
              clear n0_ n1_ n2_ n3_
              replace BK271 := Aside0.mk (blk_drew BK271.out)
              replace BK272 := Aside0.mk (blk_drew BK272.out)
              replace BK275 := Aside0.mk (blk_drew BK275.out)
              replace HB := Aside0.mk (below_drew1 HB.out)
              have p276 : 0 ≤ (x38_2 : Int) := de_
              have q276 : x38_2 < (l1_2.length : Int) := de_
              obtain ⟨ad276, A276_1, c276_1, A276_2, c276_2, e276, hx276_0, hx276_1, hx276_2, hl276_1, hi276_1, hl276_2, hi276_2⟩ := at_T44 HR1_2.out x38_2 p276 q276
              have hw276_2 := hx276_2
              have hw276_1 := hx276_1
              have hw276_0 := hx276_0
              cases e276
              replace hx276_0 := (HB.out.cell (World.block_lt_of_cell? w _ hx276_0)).trans hx276_0
              replace hx276_1 := (HB.out.cell (World.block_lt_of_cell? w _ hx276_1)).trans hx276_1
              replace hx276_2 := (HB.out.cell (World.block_lt_of_cell? w _ hx276_2)).trans hx276_2
              have HR276_1 := Aside0.mk hi276_1
              have HC276_1 := Aside0.mk hl276_1
              clear hi276_1 hl276_1
              have HR276_2 := Aside0.mk hi276_2
              have HC276_2 := Aside0.mk hl276_2
              clear hi276_2 hl276_2
              replace p276 := eq_true p276
              replace q276 := eq_true q276
              refine start_ (n := 8) (S := fun w' => w'.cell? ⟨gb275, 0, none⟩ = some (.int .i64 ((rd_T30 l0_4 x38_2).f0)) ∧ w'.cell? ⟨gb275, 1, none⟩ = some (.int .i64 ((rd_T30 l0_4 x38_2).f1)) ∧ w'.cell? ⟨gb275, 2, none⟩ = some (.string ((rd_T30 l0_4 x38_2).f2)) ∧ w'.cell? ⟨gb275, 3, none⟩ = some (.slice A274_3 ((rd_T30 l0_4 x38_2).f3).length c274_3) ∧ w'.cell? ⟨gb275, 4, none⟩ = some (.slice A274_4 ((rd_T30 l0_4 x38_2).f4).length c274_4) ∧ w'.cell? ⟨gb272, 0, none⟩ = some (.int .i64 a1_0) ∧ w'.cell? ⟨gb272, 1, none⟩ = some (.slice A1_1 l1_1.length c1_1) ∧ w'.cell? ⟨gb272, 2, none⟩ = some (.slice (some ad276) l1_2.length c1_2) ∧ w'.cell? (ad276.add ((x38_2).toNat * 3)) = some (.int .i64 ((rd_T44 l1_2 x38_2).f0)) ∧ w'.cell? ⟨(ad276.add ((x38_2).toNat * 3)).block, (ad276.add ((x38_2).toNat * 3)).off + 1, none⟩ = some (.slice A276_1 ((rd_T44 l1_2 x38_2).f1).length c276_1) ∧ w'.cell? ⟨(ad276.add ((x38_2).toNat * 3)).block, (ad276.add ((x38_2).toNat * 3)).off + 2, none⟩ = some (.slice A276_2 ((rd_T44 l1_2 x38_2).f2).length c276_2)) (ds := []) #[false, false, false, false, false, false, false, false] (by kernel_rfl) rfl rfl ⟨(blk_cell BK275.out 0).trans rfl, (blk_cell BK275.out 1).trans rfl, (blk_cell BK275.out 2).trans rfl, (blk_cell BK275.out 3).trans rfl, (blk_cell BK275.out 4).trans rfl, (blk_cell BK272.out 0).trans rfl, (blk_cell BK272.out 1).trans rfl, (blk_cell BK272.out 2).trans rfl, ((HB.out.cell (World.block_lt_of_cell? w _ hw276_0)).trans hw276_0), ((HB.out.cell (World.block_lt_of_cell? w _ hw276_1)).trans hw276_1), ((HB.out.cell (World.block_lt_of_cell? w _ hw276_2)).trans hw276_2)⟩ (fun hHeld => ?_); refine with_tabW impl_ofType.tab12 impl_ofType.bits12 (fun HT_ HW_ => ?_)
              generalize w41.drew = w42 at BK271 BK272 BK275 HB HR276_1 HR276_2 hx276_0 hx276_1 hx276_2 hHeld ⊢
              refine pure_ (i := 1) (N := some 44) (v := ?_) (a' := ?_) #[false, true, false, false, false, false, false, false] rfl rfl (any_of HT_.out (by kernel_rfl)) (fun _ _ _ h => h) (Or.inl ⟨by rfl, ?_⟩) ?_ ?_
              rotate_left
              ·intro w'
               go_simp
               with_reducible rfl
              rotate_left
              ·simp only [Act.put, List.setIfInBounds_toArray, List.set_cons_zero, List.set_cons_succ, i64_w, i32_w]
               rfl
              refine pure_ (i := 3) (N := some 46) (v := ?_) (a' := ?_) #[false, true, false, true, false, false, false, false] rfl rfl (any_of HT_.out (by kernel_rfl)) (fun _ _ _ h => h) (Or.inl ⟨by rfl, ?_⟩) ?_ ?_
              rotate_left
              ·intro w'
               go_simp
               with_reducible rfl
              rotate_left
              ·simp only [Act.put, List.setIfInBounds_toArray, List.set_cons_zero, List.set_cons_succ, i64_w, i32_w]
               rfl
              refine take_ (i := 0) (N := some 43) (v := ?_) (a' := ?_) #[true, true, false, true, false, false, false, false] rfl rfl (take_ofW HT_.out HW_.out (by kernel_rfl)) (fun _ _ _ h => h) (Or.inl ⟨by rfl, ?_⟩) hHeld ?_ ?_
              rotate_left
              ·rintro w' ⟨s0, s1, s2, s3, s4, s5, s6, s7, s8, s9, s10⟩
               go_simp
               with_reducible rfl
              rotate_left
              ·simp only [Act.put, List.setIfInBounds_toArray, List.set_cons_zero, List.set_cons_succ, i64_w, i32_w]
               rfl
              refine take_ (i := 2) (N := some 45) (v := ?_) (a' := ?_) #[true, true, true, true, false, false, false, false] rfl rfl (take_ofW HT_.out HW_.out (by kernel_rfl)) (fun _ _ _ h => h) (Or.inl ⟨by rfl, ?_⟩) hHeld ?_ ?_
              rotate_left
              ·rintro w' ⟨s0, s1, s2, s3, s4, s5, s6, s7, s8, s9, s10⟩
               go_simp
               with_reducible rfl
              rotate_left
              ·simp only [Act.put, List.setIfInBounds_toArray, List.set_cons_zero, List.set_cons_succ, i64_w, i32_w]
               rfl
              refine pure_ (i := 4) (N := some 47) (v := ?_) (a' := ?_) #[true, true, true, true, true, false, false, false] rfl rfl (any_of HT_.out (by kernel_rfl)) (fun _ _ _ h => h) (Or.inl ⟨by rfl, ?_⟩) ?_ ?_
              rotate_left
              ·intro w'
               go_simp
               with_reducible rfl
              rotate_left
              ·simp only [Act.put, List.setIfInBounds_toArray, List.set_cons_zero, List.set_cons_succ, i64_w, i32_w]
               rfl
              refine take_ (i := 5) (N := some 48) (v := ?_) (a' := ?_) #[true, true, true, true, true, true, false, false] rfl rfl (take_ofW HT_.out HW_.out (by kernel_rfl)) (fun _ _ _ h => h) (Or.inl ⟨by rfl, ?_⟩) hHeld ?_ ?_
              rotate_left
              ·rintro w' ⟨s0, s1, s2, s3, s4, s5, s6, s7, s8, s9, s10⟩
               go_simp
               with_reducible rfl
              rotate_left
              ·simp only [Act.put, List.setIfInBounds_toArray, List.set_cons_zero, List.set_cons_succ, i64_w, i32_w]
               rfl
              refine one_ (i := 6) (N := some 49) #[true, true, true, true, true, true, true, false] rfl rfl (one_of HT_.out (by kernel_rfl)) (by decide) (fun K hK => ?_)
              refine goes_ Try.func69 (by kernel_rfl) rfl #[.agg #[.int .i64 ((rd_T30 l0_4 x38_2).f0), .int .i64 ((rd_T30 l0_4 x38_2).f1), .string ((rd_T30 l0_4 x38_2).f2), .slice A274_3 ((rd_T30 l0_4 x38_2).f3).length c274_3, .slice A274_4 ((rd_T30 l0_4 x38_2).f4).length c274_4], .agg #[.int .i64 ((rd_T44 l1_2 x38_2).f0), .slice A276_1 ((rd_T44 l1_2 x38_2).f1).length c276_1, .slice A276_2 ((rd_T44 l1_2 x38_2).f2).length c276_2]] (by rfl) rfl rfl ma_ ?_
              with_reducible refine (ih k2 (by have := HJ15.out; have := HK2.out; omega) ((rd_T30 l0_4 x38_2).f0) ((rd_T30 l0_4 x38_2).f1) ((rd_T30 l0_4 x38_2).f2) _ _ ((rd_T30 l0_4 x38_2).f3) _ _ ((rd_T30 l0_4 x38_2).f4) ((rd_T44 l1_2 x38_2).f0) _ _ ((rd_T44 l1_2 x38_2).f1) _ _ ((rd_T44 l1_2 x38_2).f2) true _ ?side1 ?side2 ?side3 ?side4 ?side5 ?side6 ?side7 ?side8 A35.out).mono ?_
              (case side1 => exact C_ (Kd.C_below HR274_3.out HB.out))
              (case side2 => exact HC274_3.out)
              (case side3 => exact C_ (Kd.C_below HR274_4.out HB.out))
              (case side4 => exact HC274_4.out)
              (case side5 => exact C_ (Kd.C_below HR276_1.out HB.out))
              (case side6 => exact HC276_1.out)
              (case side7 => exact C_ (Kd.C_below HR276_2.out HB.out))
              (case side8 => exact HC276_2.out)
              rintro e w43 ⟨rfl, hb⟩
              refine ⟨_, rfl, ?_⟩
              replace BK271 := Aside0.mk (blk_below (K_ BK271.out) hb)
              replace BK272 := Aside0.mk (blk_below (K_ BK272.out) hb)
              replace BK275 := Aside0.mk (blk_below (K_ BK275.out) hb)
              replace HB := Aside0.mk (below_step (B3_ HB.out GE271.out GE272.out GE275.out) hb)
              (try clear hb)
              (try clear hb2)
              (try clear hk)
              (try clear hi)
              refine hK.out _ _ ⟨(blk_cell BK275.out 0).trans rfl, (blk_cell BK275.out 1).trans rfl, (blk_cell BK275.out 2).trans rfl, (blk_cell BK275.out 3).trans rfl, (blk_cell BK275.out 4).trans rfl, (blk_cell BK272.out 0).trans rfl, (blk_cell BK272.out 1).trans rfl, (blk_cell BK272.out 2).trans rfl, ((HB.out.cell (World.block_lt_of_cell? w _ hw276_0)).trans hw276_0), ((HB.out.cell (World.block_lt_of_cell? w _ hw276_1)).trans hw276_1), ((HB.out.cell (World.block_lt_of_cell? w _ hw276_2)).trans hw276_2)⟩ (fun hHeld => ?_)
              clear hK K
              refine norm_ (a' := ?_) ?_ ?_
              rotate_left
              ·show Act.put _ (some 49) _ = _
               simp only [Act.put, List.setIfInBounds_toArray, List.set_cons_zero, List.set_cons_succ, i64_w, i32_w]
               rfl
              refine pure_ (i := 7) (N := some 50) (v := ?_) (a' := ?_) #[true, true, true, true, true, true, true, true] rfl rfl (any_of HT_.out (by kernel_rfl)) (fun _ _ _ h => h) (Or.inl ⟨by rfl, ?_⟩) ?_ ?_
              rotate_left
              ·intro w'
               go_simp
               with_reducible rfl
              rotate_left
              ·simp only [Act.put, List.setIfInBounds_toArray, List.set_cons_zero, List.set_cons_succ, i64_w, i32_w]
               rfl
              refine done_ (done_of HT_.out (by kernel_rfl)) ?_
              try go_wp2
              go_roundg k2
              case measure => have := HJ15.out; have := HK2.out; omega
              case rel => exact ⟨(wrap64 (x38_2 + 1)), q_, H', ⟨by have := HJ15.out; have := HK2.out; omega⟩, ⟨K_ BK271.out⟩, ⟨K_ BK272.out⟩, ⟨B3_ HB.out GE271.out GE272.out GE275.out⟩⟩
             ·replace c36 := Bool.eq_false_iff.mpr c36
              subst c36
              have H1 : (some false) = some r := by rw [if_neg (show ¬ (false = true) by decide)] at H; exact H
              clear H
              have H := H1
              clear H1
              obtain rfl := Option.some.inj H
              have p274 : 0 ≤ (x38_2 : Int) := de_
              have q274 : x38_2 < (l0_4.length : Int) := de_
              obtain ⟨ad274, A274_3, c274_3, A274_4, c274_4, e274, hx274_0, hx274_1, hx274_2, hx274_3, hx274_4, hl274_3, hi274_3, hl274_4, hi274_4⟩ := at_T30 HR0_4.out x38_2 p274 q274
              cases e274
              replace hx274_0 := (HB.out.cell (World.block_lt_of_cell? w _ hx274_0)).trans hx274_0
              replace hx274_1 := (HB.out.cell (World.block_lt_of_cell? w _ hx274_1)).trans hx274_1
              replace hx274_2 := (HB.out.cell (World.block_lt_of_cell? w _ hx274_2)).trans hx274_2
              replace hx274_3 := (HB.out.cell (World.block_lt_of_cell? w _ hx274_3)).trans hx274_3
              replace hx274_4 := (HB.out.cell (World.block_lt_of_cell? w _ hx274_4)).trans hx274_4
              have HR274_3 := Aside0.mk hi274_3
              have HC274_3 := Aside0.mk hl274_3
              clear hi274_3 hl274_3
              have HR274_4 := Aside0.mk hi274_4
              have HC274_4 := Aside0.mk hl274_4
              clear hi274_4 hl274_4
              replace p274 := eq_true p274
              replace q274 := eq_true q274
              try go_wp2_with (first | ((with_reducible refine gate_dst (N := 6) rfl ?_); refine box_event ?hg (N := 6) ?hd (cs := #[.int .i64 0, .int .i64 0, .string (⟨#[]⟩ : ByteArray), .slice none 0 0, .slice none 0 0]) (t := 30) ?hr ?_; (case hd => rfl); (case hg => rfl); (case hr => first | (go_simp; done) | (go_simp; rfl)); intro gb275 hg w44 hbox hb; have BK275 := Aside0.mk (hbox); have GW275 := Aside0.mk ((by rw [hg]; exact (below_size (B2_ HB.out GE271.out GE272.out)) : w.heap.size ≤ gb275)); have GE275 := Aside0.mk ((by rw [hg]; exact (below_size (B2_ HB.out GE271.out GE272.out)) : w.heap.size ≤ gb275)); replace HB := Aside0.mk (below_step (B2_ HB.out GE271.out GE272.out) hb); have NB271_275 := Aside0.mk ((by rw [hg]; exact Nat.ne_of_lt (blk_lt (K_ BK271.out)) : gb271 ≠ gb275)); have NB275_271 := Aside0.mk ((by rw [hg]; exact Nat.ne_of_gt (blk_lt (K_ BK271.out)) : gb275 ≠ gb271)); replace BK271 := Aside0.mk (blk_below (K_ BK271.out) hb); have NB272_275 := Aside0.mk ((by rw [hg]; exact Nat.ne_of_lt (blk_lt (K_ BK272.out)) : gb272 ≠ gb275)); have NB275_272 := Aside0.mk ((by rw [hg]; exact Nat.ne_of_gt (blk_lt (K_ BK272.out)) : gb275 ≠ gb272)); replace BK272 := Aside0.mk (blk_below (K_ BK272.out) hb); clear hb hbox hg; have hnb45 := NB275_271.out; have hnc45 := NB271_275.out; have hnb46 := NB275_272.out; have hnc46 := NB272_275.out; obtain ⟨hcz47_0, hcz47_1, hcz47_2, hcz47_3, hcz47_4, hfz47_0, hfz47_1, hfz47_2, hfz47_3, hfz47_4⟩ := box5_ BK275.out))
              have n0_ : Aside0 ((((((w44.setCell ⟨gb275, 0, none⟩ (.int .i64 ((rd_T30 l0_4 x38_2).f0))).setCell ⟨gb275, 1, none⟩ (.int .i64 ((rd_T30 l0_4 x38_2).f1))).setCell ⟨gb275, 2, none⟩ (.string ((rd_T30 l0_4 x38_2).f2))).setCell ⟨gb275, 3, none⟩ (.slice A274_3 ((rd_T30 l0_4 x38_2).f3).length c274_3)).setCell ⟨gb275, 4, none⟩ (.slice A274_4 ((rd_T30 l0_4 x38_2).f4).length c274_4)).heap[gb271]? = some (.cells #[.int .i64 a0_0, .int .i64 a0_1, .string a0_2, .slice A0_3 l0_3.length c0_3, .slice (some ad274) l0_4.length c0_4] 30 (0, 0))) := ⟨by (with_reducible repeat (first | refine blk_drewN ?_ _ | refine blk_drew ?_ | refine blk_alloc ?_ _)); refine blk_far ?_ NB271_275.out _; (with_reducible repeat (first | refine blk_drewN ?_ _ | refine blk_drew ?_ | refine blk_alloc ?_ _)); refine blk_far ?_ NB271_275.out _; (with_reducible repeat (first | refine blk_drewN ?_ _ | refine blk_drew ?_ | refine blk_alloc ?_ _)); refine blk_far ?_ NB271_275.out _; (with_reducible repeat (first | refine blk_drewN ?_ _ | refine blk_drew ?_ | refine blk_alloc ?_ _)); refine blk_far ?_ NB271_275.out _; (with_reducible repeat (first | refine blk_drewN ?_ _ | refine blk_drew ?_ | refine blk_alloc ?_ _)); refine blk_far ?_ NB271_275.out _; (with_reducible repeat (first | refine blk_drewN ?_ _ | refine blk_drew ?_ | refine blk_alloc ?_ _)); exact BK271.out⟩
              have n1_ : Aside0 ((((((w44.setCell ⟨gb275, 0, none⟩ (.int .i64 ((rd_T30 l0_4 x38_2).f0))).setCell ⟨gb275, 1, none⟩ (.int .i64 ((rd_T30 l0_4 x38_2).f1))).setCell ⟨gb275, 2, none⟩ (.string ((rd_T30 l0_4 x38_2).f2))).setCell ⟨gb275, 3, none⟩ (.slice A274_3 ((rd_T30 l0_4 x38_2).f3).length c274_3)).setCell ⟨gb275, 4, none⟩ (.slice A274_4 ((rd_T30 l0_4 x38_2).f4).length c274_4)).heap[gb272]? = some (.cells #[.int .i64 a1_0, .slice A1_1 l1_1.length c1_1, .slice A1_2 l1_2.length c1_2] 44 (0, 0))) := ⟨by (with_reducible repeat (first | refine blk_drewN ?_ _ | refine blk_drew ?_ | refine blk_alloc ?_ _)); refine blk_far ?_ NB272_275.out _; (with_reducible repeat (first | refine blk_drewN ?_ _ | refine blk_drew ?_ | refine blk_alloc ?_ _)); refine blk_far ?_ NB272_275.out _; (with_reducible repeat (first | refine blk_drewN ?_ _ | refine blk_drew ?_ | refine blk_alloc ?_ _)); refine blk_far ?_ NB272_275.out _; (with_reducible repeat (first | refine blk_drewN ?_ _ | refine blk_drew ?_ | refine blk_alloc ?_ _)); refine blk_far ?_ NB272_275.out _; (with_reducible repeat (first | refine blk_drewN ?_ _ | refine blk_drew ?_ | refine blk_alloc ?_ _)); refine blk_far ?_ NB272_275.out _; (with_reducible repeat (first | refine blk_drewN ?_ _ | refine blk_drew ?_ | refine blk_alloc ?_ _)); exact BK272.out⟩
              have n2_ : Aside0 ((((((w44.setCell ⟨gb275, 0, none⟩ (.int .i64 ((rd_T30 l0_4 x38_2).f0))).setCell ⟨gb275, 1, none⟩ (.int .i64 ((rd_T30 l0_4 x38_2).f1))).setCell ⟨gb275, 2, none⟩ (.string ((rd_T30 l0_4 x38_2).f2))).setCell ⟨gb275, 3, none⟩ (.slice A274_3 ((rd_T30 l0_4 x38_2).f3).length c274_3)).setCell ⟨gb275, 4, none⟩ (.slice A274_4 ((rd_T30 l0_4 x38_2).f4).length c274_4)).heap[gb275]? = some (.cells #[.int .i64 ((rd_T30 l0_4 x38_2).f0), .int .i64 ((rd_T30 l0_4 x38_2).f1), .string ((rd_T30 l0_4 x38_2).f2), .slice A274_3 ((rd_T30 l0_4 x38_2).f3).length c274_3, .slice A274_4 ((rd_T30 l0_4 x38_2).f4).length c274_4] 30 (0, 0))) := ⟨by (with_reducible repeat (first | refine blk_drewN ?_ _ | refine blk_drew ?_ | refine blk_alloc ?_ _)); refine blk_put (cs := #[.int .i64 ((rd_T30 l0_4 x38_2).f0), .int .i64 ((rd_T30 l0_4 x38_2).f1), .string ((rd_T30 l0_4 x38_2).f2), .slice A274_3 ((rd_T30 l0_4 x38_2).f3).length c274_3, .slice none 0 0]) ?_ 4 _ rfl; (with_reducible repeat (first | refine blk_drewN ?_ _ | refine blk_drew ?_ | refine blk_alloc ?_ _)); refine blk_put (cs := #[.int .i64 ((rd_T30 l0_4 x38_2).f0), .int .i64 ((rd_T30 l0_4 x38_2).f1), .string ((rd_T30 l0_4 x38_2).f2), .slice none 0 0, .slice none 0 0]) ?_ 3 _ rfl; (with_reducible repeat (first | refine blk_drewN ?_ _ | refine blk_drew ?_ | refine blk_alloc ?_ _)); refine blk_put (cs := #[.int .i64 ((rd_T30 l0_4 x38_2).f0), .int .i64 ((rd_T30 l0_4 x38_2).f1), .string (⟨#[]⟩ : ByteArray), .slice none 0 0, .slice none 0 0]) ?_ 2 _ rfl; (with_reducible repeat (first | refine blk_drewN ?_ _ | refine blk_drew ?_ | refine blk_alloc ?_ _)); refine blk_put (cs := #[.int .i64 ((rd_T30 l0_4 x38_2).f0), .int .i64 0, .string (⟨#[]⟩ : ByteArray), .slice none 0 0, .slice none 0 0]) ?_ 1 _ rfl; (with_reducible repeat (first | refine blk_drewN ?_ _ | refine blk_drew ?_ | refine blk_alloc ?_ _)); refine blk_put (cs := #[.int .i64 0, .int .i64 0, .string (⟨#[]⟩ : ByteArray), .slice none 0 0, .slice none 0 0]) ?_ 0 _ rfl; (with_reducible repeat (first | refine blk_drewN ?_ _ | refine blk_drew ?_ | refine blk_alloc ?_ _)); exact BK275.out⟩
              have n3_ : Aside0 (Below w.heap.size w (((((w44.setCell ⟨gb275, 0, none⟩ (.int .i64 ((rd_T30 l0_4 x38_2).f0))).setCell ⟨gb275, 1, none⟩ (.int .i64 ((rd_T30 l0_4 x38_2).f1))).setCell ⟨gb275, 2, none⟩ (.string ((rd_T30 l0_4 x38_2).f2))).setCell ⟨gb275, 3, none⟩ (.slice A274_3 ((rd_T30 l0_4 x38_2).f3).length c274_3)).setCell ⟨gb275, 4, none⟩ (.slice A274_4 ((rd_T30 l0_4 x38_2).f4).length c274_4))) := ⟨B3_ HB.out GE271.out GE272.out GE275.out⟩
              (try clear BK271)
              (try clear BK272)
              (try clear BK275)
              (try clear HB)
              generalize (((((w44.setCell ⟨gb275, 0, none⟩ (.int .i64 ((rd_T30 l0_4 x38_2).f0))).setCell ⟨gb275, 1, none⟩ (.int .i64 ((rd_T30 l0_4 x38_2).f1))).setCell ⟨gb275, 2, none⟩ (.string ((rd_T30 l0_4 x38_2).f2))).setCell ⟨gb275, 3, none⟩ (.slice A274_3 ((rd_T30 l0_4 x38_2).f3).length c274_3)).setCell ⟨gb275, 4, none⟩ (.slice A274_4 ((rd_T30 l0_4 x38_2).f4).length c274_4)) = w48 at n0_ n1_ n2_ n3_ ⊢
              have BK271 := n0_
              have BK272 := n1_
              have BK275 := n2_
              have HB := n3_
              clear n0_ n1_ n2_ n3_
              replace BK271 := Aside0.mk (blk_drew BK271.out)
              replace BK272 := Aside0.mk (blk_drew BK272.out)
              replace BK275 := Aside0.mk (blk_drew BK275.out)
              replace HB := Aside0.mk (below_drew1 HB.out)
              have p276 : 0 ≤ (x38_2 : Int) := de_
              have q276 : x38_2 < (l1_2.length : Int) := de_
              obtain ⟨ad276, A276_1, c276_1, A276_2, c276_2, e276, hx276_0, hx276_1, hx276_2, hl276_1, hi276_1, hl276_2, hi276_2⟩ := at_T44 HR1_2.out x38_2 p276 q276
              have hw276_2 := hx276_2
              have hw276_1 := hx276_1
              have hw276_0 := hx276_0
              cases e276
              replace hx276_0 := (HB.out.cell (World.block_lt_of_cell? w _ hx276_0)).trans hx276_0
              replace hx276_1 := (HB.out.cell (World.block_lt_of_cell? w _ hx276_1)).trans hx276_1
              replace hx276_2 := (HB.out.cell (World.block_lt_of_cell? w _ hx276_2)).trans hx276_2
              have HR276_1 := Aside0.mk hi276_1
              have HC276_1 := Aside0.mk hl276_1
              clear hi276_1 hl276_1
              have HR276_2 := Aside0.mk hi276_2
              have HC276_2 := Aside0.mk hl276_2
              clear hi276_2 hl276_2
              replace p276 := eq_true p276
              replace q276 := eq_true q276
              refine start_ (n := 8) (S := fun w' => w'.cell? ⟨gb275, 0, none⟩ = some (.int .i64 ((rd_T30 l0_4 x38_2).f0)) ∧ w'.cell? ⟨gb275, 1, none⟩ = some (.int .i64 ((rd_T30 l0_4 x38_2).f1)) ∧ w'.cell? ⟨gb275, 2, none⟩ = some (.string ((rd_T30 l0_4 x38_2).f2)) ∧ w'.cell? ⟨gb275, 3, none⟩ = some (.slice A274_3 ((rd_T30 l0_4 x38_2).f3).length c274_3) ∧ w'.cell? ⟨gb275, 4, none⟩ = some (.slice A274_4 ((rd_T30 l0_4 x38_2).f4).length c274_4) ∧ w'.cell? ⟨gb272, 0, none⟩ = some (.int .i64 a1_0) ∧ w'.cell? ⟨gb272, 1, none⟩ = some (.slice A1_1 l1_1.length c1_1) ∧ w'.cell? ⟨gb272, 2, none⟩ = some (.slice (some ad276) l1_2.length c1_2) ∧ w'.cell? (ad276.add ((x38_2).toNat * 3)) = some (.int .i64 ((rd_T44 l1_2 x38_2).f0)) ∧ w'.cell? ⟨(ad276.add ((x38_2).toNat * 3)).block, (ad276.add ((x38_2).toNat * 3)).off + 1, none⟩ = some (.slice A276_1 ((rd_T44 l1_2 x38_2).f1).length c276_1) ∧ w'.cell? ⟨(ad276.add ((x38_2).toNat * 3)).block, (ad276.add ((x38_2).toNat * 3)).off + 2, none⟩ = some (.slice A276_2 ((rd_T44 l1_2 x38_2).f2).length c276_2)) (ds := []) #[false, false, false, false, false, false, false, false] (by kernel_rfl) rfl rfl ⟨(blk_cell BK275.out 0).trans rfl, (blk_cell BK275.out 1).trans rfl, (blk_cell BK275.out 2).trans rfl, (blk_cell BK275.out 3).trans rfl, (blk_cell BK275.out 4).trans rfl, (blk_cell BK272.out 0).trans rfl, (blk_cell BK272.out 1).trans rfl, (blk_cell BK272.out 2).trans rfl, ((HB.out.cell (World.block_lt_of_cell? w _ hw276_0)).trans hw276_0), ((HB.out.cell (World.block_lt_of_cell? w _ hw276_1)).trans hw276_1), ((HB.out.cell (World.block_lt_of_cell? w _ hw276_2)).trans hw276_2)⟩ (fun hHeld => ?_); refine with_tabW impl_ofType.tab12 impl_ofType.bits12 (fun HT_ HW_ => ?_)
              generalize w48.drew = w49 at BK271 BK272 BK275 HB HR276_1 HR276_2 hx276_0 hx276_1 hx276_2 hHeld ⊢
              refine pure_ (i := 1) (N := some 44) (v := ?_) (a' := ?_) #[false, true, false, false, false, false, false, false] rfl rfl (any_of HT_.out (by kernel_rfl)) (fun _ _ _ h => h) (Or.inl ⟨by rfl, ?_⟩) ?_ ?_
              rotate_left
              ·intro w'
               go_simp
               with_reducible rfl
              rotate_left
              ·simp only [Act.put, List.setIfInBounds_toArray, List.set_cons_zero, List.set_cons_succ, i64_w, i32_w]
               rfl
              refine pure_ (i := 3) (N := some 46) (v := ?_) (a' := ?_) #[false, true, false, true, false, false, false, false] rfl rfl (any_of HT_.out (by kernel_rfl)) (fun _ _ _ h => h) (Or.inl ⟨by rfl, ?_⟩) ?_ ?_
              rotate_left
              ·intro w'
               go_simp
               with_reducible rfl
              rotate_left
              ·simp only [Act.put, List.setIfInBounds_toArray, List.set_cons_zero, List.set_cons_succ, i64_w, i32_w]
               rfl
              refine take_ (i := 0) (N := some 43) (v := ?_) (a' := ?_) #[true, true, false, true, false, false, false, false] rfl rfl (take_ofW HT_.out HW_.out (by kernel_rfl)) (fun _ _ _ h => h) (Or.inl ⟨by rfl, ?_⟩) hHeld ?_ ?_
              rotate_left
              ·rintro w' ⟨s0, s1, s2, s3, s4, s5, s6, s7, s8, s9, s10⟩
               go_simp
               with_reducible rfl
              rotate_left
              ·simp only [Act.put, List.setIfInBounds_toArray, List.set_cons_zero, List.set_cons_succ, i64_w, i32_w]
               rfl
              refine take_ (i := 2) (N := some 45) (v := ?_) (a' := ?_) #[true, true, true, true, false, false, false, false] rfl rfl (take_ofW HT_.out HW_.out (by kernel_rfl)) (fun _ _ _ h => h) (Or.inl ⟨by rfl, ?_⟩) hHeld ?_ ?_
              rotate_left
              ·rintro w' ⟨s0, s1, s2, s3, s4, s5, s6, s7, s8, s9, s10⟩
               go_simp
               with_reducible rfl
              rotate_left
              ·simp only [Act.put, List.setIfInBounds_toArray, List.set_cons_zero, List.set_cons_succ, i64_w, i32_w]
               rfl
              refine pure_ (i := 4) (N := some 47) (v := ?_) (a' := ?_) #[true, true, true, true, true, false, false, false] rfl rfl (any_of HT_.out (by kernel_rfl)) (fun _ _ _ h => h) (Or.inl ⟨by rfl, ?_⟩) ?_ ?_
              rotate_left
              ·intro w'
               go_simp
               with_reducible rfl
              rotate_left
              ·simp only [Act.put, List.setIfInBounds_toArray, List.set_cons_zero, List.set_cons_succ, i64_w, i32_w]
               rfl
              refine take_ (i := 5) (N := some 48) (v := ?_) (a' := ?_) #[true, true, true, true, true, true, false, false] rfl rfl (take_ofW HT_.out HW_.out (by kernel_rfl)) (fun _ _ _ h => h) (Or.inl ⟨by rfl, ?_⟩) hHeld ?_ ?_
              rotate_left
              ·rintro w' ⟨s0, s1, s2, s3, s4, s5, s6, s7, s8, s9, s10⟩
               go_simp
               with_reducible rfl
              rotate_left
              ·simp only [Act.put, List.setIfInBounds_toArray, List.set_cons_zero, List.set_cons_succ, i64_w, i32_w]
               rfl
              refine one_ (i := 6) (N := some 49) #[true, true, true, true, true, true, true, false] rfl rfl (one_of HT_.out (by kernel_rfl)) (by decide) (fun K hK => ?_)
              refine goes_ Try.func69 (by kernel_rfl) rfl #[.agg #[.int .i64 ((rd_T30 l0_4 x38_2).f0), .int .i64 ((rd_T30 l0_4 x38_2).f1), .string ((rd_T30 l0_4 x38_2).f2), .slice A274_3 ((rd_T30 l0_4 x38_2).f3).length c274_3, .slice A274_4 ((rd_T30 l0_4 x38_2).f4).length c274_4], .agg #[.int .i64 ((rd_T44 l1_2 x38_2).f0), .slice A276_1 ((rd_T44 l1_2 x38_2).f1).length c276_1, .slice A276_2 ((rd_T44 l1_2 x38_2).f2).length c276_2]] (by rfl) rfl rfl ma_ ?_
              with_reducible refine (ih k2 (by have := HJ15.out; have := HK2.out; omega) ((rd_T30 l0_4 x38_2).f0) ((rd_T30 l0_4 x38_2).f1) ((rd_T30 l0_4 x38_2).f2) _ _ ((rd_T30 l0_4 x38_2).f3) _ _ ((rd_T30 l0_4 x38_2).f4) ((rd_T44 l1_2 x38_2).f0) _ _ ((rd_T44 l1_2 x38_2).f1) _ _ ((rd_T44 l1_2 x38_2).f2) false _ ?side1 ?side2 ?side3 ?side4 ?side5 ?side6 ?side7 ?side8 A35.out).mono ?_
              (case side1 => exact C_ (Kd.C_below HR274_3.out HB.out))
              (case side2 => exact HC274_3.out)
              (case side3 => exact C_ (Kd.C_below HR274_4.out HB.out))
              (case side4 => exact HC274_4.out)
              (case side5 => exact C_ (Kd.C_below HR276_1.out HB.out))
              (case side6 => exact HC276_1.out)
              (case side7 => exact C_ (Kd.C_below HR276_2.out HB.out))
              (case side8 => exact HC276_2.out)
              rintro e w50 ⟨rfl, hb⟩
              refine ⟨_, rfl, ?_⟩
              replace BK271 := Aside0.mk (blk_below (K_ BK271.out) hb)
              replace BK272 := Aside0.mk (blk_below (K_ BK272.out) hb)
              replace BK275 := Aside0.mk (blk_below (K_ BK275.out) hb)
              replace HB := Aside0.mk (below_step (B3_ HB.out GE271.out GE272.out GE275.out) hb)
              (try clear hb)
              (try clear hb2)
              (try clear hk)
              (try clear hi)
              refine hK.out _ _ ⟨(blk_cell BK275.out 0).trans rfl, (blk_cell BK275.out 1).trans rfl, (blk_cell BK275.out 2).trans rfl, (blk_cell BK275.out 3).trans rfl, (blk_cell BK275.out 4).trans rfl, (blk_cell BK272.out 0).trans rfl, (blk_cell BK272.out 1).trans rfl, (blk_cell BK272.out 2).trans rfl, ((HB.out.cell (World.block_lt_of_cell? w _ hw276_0)).trans hw276_0), ((HB.out.cell (World.block_lt_of_cell? w _ hw276_1)).trans hw276_1), ((HB.out.cell (World.block_lt_of_cell? w _ hw276_2)).trans hw276_2)⟩ (fun hHeld => ?_)
              clear hK K
              refine norm_ (a' := ?_) ?_ ?_
              rotate_left
              ·show Act.put _ (some 49) _ = _
               simp only [Act.put, List.setIfInBounds_toArray, List.set_cons_zero, List.set_cons_succ, i64_w, i32_w]
               rfl
              refine pure_ (i := 7) (N := some 50) (v := ?_) (a' := ?_) #[true, true, true, true, true, true, true, true] rfl rfl (any_of HT_.out (by kernel_rfl)) (fun _ _ _ h => h) (Or.inl ⟨by rfl, ?_⟩) ?_ ?_
              rotate_left
              ·intro w'
               go_simp
               with_reducible rfl
              rotate_left
              ·simp only [Act.put, List.setIfInBounds_toArray, List.set_cons_zero, List.set_cons_succ, i64_w, i32_w]
               rfl
              refine done_ (done_of HT_.out (by kernel_rfl)) ?_
              try go_wp2
              go_ret
              exact ⟨er_, B3_ HB.out GE271.out GE272.out GE275.out⟩
            ·rw [if_neg c34] at H
             exact absurd H (by simp)
           ·rw [if_neg c33] at H
            exact absurd H (by simp)
          ·rw [if_neg c32] at H
           exact absurd H (by simp)
         ·rw [if_neg c31] at H
          have c31b0 : decide (x38_2 < (l0_4.length : Int)) = false := decide_eq_false c31
          clear c31
          obtain rfl := Option.some.inj H
          go_wp2
          go_ret
          exact ⟨er_, B2_ HB.out GE271.out GE272.out⟩
   ·rw [if_neg c15] at H
    have c15b0 : (a1_0 == 3) = false := beq_eq_false_iff_ne.mpr c15
    have c15b1 : (a1_0 != 3) = true := bne_iff_ne.mpr c15
    by_cases c51 : a1_0 = 4
    ·rw [if_pos c51] at H
     have c51b0 : (a1_0 == 4) = true := beq_iff_eq.mpr c51
     have c51b1 : (a1_0 != 4) = false := bne_eq_false_iff_eq.mpr c51
     clear c51
     replace H := Option.bind_eq_some_iff.mp H
     obtain ⟨t278, A520, H⟩ := H
     replace H : (if a0_0 = 4 then (if t278 ≥ 0 then (if 0 < (l0_4.length : Int) then (if 0 ≤ t278 then (if t278 < (l1_2.length : Int) then ((impl_ofType.f k ((rd_T30 l0_4 0).f0) ((rd_T30 l0_4 0).f1) ((rd_T30 l0_4 0).f2) ((rd_T30 l0_4 0).f3) ((rd_T30 l0_4 0).f4) ((rd_T44 l1_2 t278).f0) ((rd_T44 l1_2 t278).f1) ((rd_T44 l1_2 t278).f2)).bind fun t281 => (some t281)) else (none)) else (none)) else (none)) else (some false)) else (some false)) = some r := H
     have A52 := Aside0.mk A520
     clear A520
     by_cases c53 : a0_0 = 4
     ·rw [if_pos c53] at H
      have c53b0 : (a0_0 == 4) = true := beq_iff_eq.mpr c53
      have c53b1 : (a0_0 != 4) = false := bne_eq_false_iff_eq.mpr c53
      clear c53
      by_cases c54 : t278 ≥ 0
      ·rw [if_pos c54] at H
       have c54b0 : decide (0 ≤ t278) = true := decide_eq_true c54
       clear c54
       by_cases c55 : 0 < (l0_4.length : Int)
       ·rw [if_pos c55] at H
        have c55b0 : decide (0 < (l0_4.length : Int)) = true := decide_eq_true c55
        have c55b1 : decide (0 < l0_4.length) = true := decide_eq_true (by omega)
        clear c55
        by_cases c56 : 0 ≤ t278
        ·rw [if_pos c56] at H
         have c56b0 : decide (0 ≤ t278) = true := decide_eq_true c56
         clear c56
         by_cases c57 : t278 < (l1_2.length : Int)
         ·rw [if_pos c57] at H
          have c57b0 : decide (t278 < (l1_2.length : Int)) = true := decide_eq_true c57
          clear c57
          replace H := Option.bind_eq_some_iff.mp H
          obtain ⟨t281, A580, H⟩ := H
          replace H : (some t281) = some r := H
          have A58 := Aside0.mk A580
          clear A580
          obtain rfl := Option.some.inj H
          go_enter Try.func69, Try.ntmps69
          try go_wp2_with (first | ((with_reducible refine gate_dst (N := 2) rfl ?_); refine box_event ?hg (N := 2) ?hd (cs := #[.int .i64 a0_0, .int .i64 a0_1, .string a0_2, .slice A0_3 l0_3.length c0_3, .slice A0_4 l0_4.length c0_4]) (t := 30) ?hr ?_; (case hd => rfl); (case hg => rfl); (case hr => first | (go_simp; done) | (go_simp; rfl)); intro gb271 hg w59 hbox hb; have BK271 := Aside0.mk (hbox); have GW271 := Aside0.mk ((by rw [hg]; exact (below_size (B0_ HB.out)) : w.heap.size ≤ gb271)); have GE271 := Aside0.mk ((by rw [hg]; exact (below_size (B0_ HB.out)) : w.heap.size ≤ gb271)); replace HB := Aside0.mk (below_step (B0_ HB.out) hb); clear hb hbox hg) | ((with_reducible refine gate_dst (N := 3) rfl ?_); refine box_event ?hg (N := 3) ?hd (cs := #[.int .i64 a1_0, .slice A1_1 l1_1.length c1_1, .slice A1_2 l1_2.length c1_2]) (t := 44) ?hr ?_; (case hd => rfl); (case hg => rfl); (case hr => first | (go_simp; done) | (go_simp; rfl)); intro gb272 hg w60 hbox hb; have BK272 := Aside0.mk (hbox); have GW272 := Aside0.mk ((by rw [hg]; exact (below_size (B1_ HB.out GE271.out)) : w.heap.size ≤ gb272)); have GE272 := Aside0.mk ((by rw [hg]; exact (below_size (B1_ HB.out GE271.out)) : w.heap.size ≤ gb272)); replace HB := Aside0.mk (below_step (B1_ HB.out GE271.out) hb); have NB271_272 := Aside0.mk ((by rw [hg]; exact Nat.ne_of_lt (blk_lt (K_ BK271.out)) : gb271 ≠ gb272)); have NB272_271 := Aside0.mk ((by rw [hg]; exact Nat.ne_of_gt (blk_lt (K_ BK271.out)) : gb272 ≠ gb271)); replace BK271 := Aside0.mk (blk_below (K_ BK271.out) hb); clear hb hbox hg; have hnb61 := NB272_271.out; have hnc61 := NB271_272.out; obtain ⟨hcz62_0, hcz62_1, hcz62_2, hfz62_0, hfz62_1, hfz62_2⟩ := box3_ BK272.out; obtain ⟨hcz63_0, hcz63_1, hcz63_2, hcz63_3, hcz63_4, hfz63_0, hfz63_1, hfz63_2, hfz63_3, hfz63_4⟩ := box5_ BK271.out) | ((with_reducible refine gate_callee (f := 101) rfl ?_); refine goesL_ (some 58) rfl rfl Try.func101 (by kernel_rfl) rfl #[.slice A1_1 l1_1.length c1_1, .string a0_2] rfl ma_ ?_; (with_reducible refine (impl_IndexOf.calls k _ _ l1_1 a0_2 t278 _ ?side1 ?side2 A52.out).mono ?_); (case side1 => exact C_ (Kd.C_below HR1_1.out HB.out)); (case side2 => exact HC1_1.out); rintro e w' ⟨rfl, ⟨nd, rfl⟩⟩; refine ⟨_, rfl, ?_⟩))
          (try (rw [drewN_self w60]; generalize hq_ : World.drewN w60 _ = w60; have n0_ : Aside0 (w60.heap[gb271]? = some (.cells #[.int .i64 a0_0, .int .i64 a0_1, .string a0_2, .slice A0_3 l0_3.length c0_3, .slice A0_4 l0_4.length c0_4] 30 (0, 0))) := ⟨by rw [← hq_]; exact (K_ BK271.out)⟩; have n1_ : Aside0 (w60.heap[gb272]? = some (.cells #[.int .i64 a1_0, .slice A1_1 l1_1.length c1_1, .slice A1_2 l1_2.length c1_2] 44 (0, 0))) := ⟨by rw [← hq_]; exact (K_ BK272.out)⟩; have n2_ : Aside0 (Below w.heap.size w w60) := ⟨by rw [← hq_]; exact (B2_ HB.out GE271.out GE272.out)⟩; clear BK271 BK272 HB hq_; have BK271 := n0_; have BK272 := n1_; have HB := n2_; clear n0_ n1_ n2_))
          replace BK271 := Aside0.mk (blk_drew BK271.out)
          replace BK272 := Aside0.mk (blk_drew BK272.out)
          replace HB := Aside0.mk (below_drew1 HB.out)
          have p279 : 0 ≤ (0 : Int) := (by omega)
          have q279 : 0 < (l0_4.length : Int) := de_
          obtain ⟨ad279, A279_3, c279_3, A279_4, c279_4, e279, hx279_0, hx279_1, hx279_2, hx279_3, hx279_4, hl279_3, hi279_3, hl279_4, hi279_4⟩ := at_T30 HR0_4.out 0 p279 q279
          have hw279_4 := hx279_4
          (try rw [show ((0 : Int)).toNat = 0 from rfl] at hw279_4)
          (try rw [show 0 * 5 = 0 from rfl] at hw279_4)
          (try rw [Addr.add_zero'] at hw279_4)
          have hw279_3 := hx279_3
          (try rw [show ((0 : Int)).toNat = 0 from rfl] at hw279_3)
          (try rw [show 0 * 5 = 0 from rfl] at hw279_3)
          (try rw [Addr.add_zero'] at hw279_3)
          have hw279_2 := hx279_2
          (try rw [show ((0 : Int)).toNat = 0 from rfl] at hw279_2)
          (try rw [show 0 * 5 = 0 from rfl] at hw279_2)
          (try rw [Addr.add_zero'] at hw279_2)
          have hw279_1 := hx279_1
          (try rw [show ((0 : Int)).toNat = 0 from rfl] at hw279_1)
          (try rw [show 0 * 5 = 0 from rfl] at hw279_1)
          (try rw [Addr.add_zero'] at hw279_1)
          have hw279_0 := hx279_0
          (try rw [show ((0 : Int)).toNat = 0 from rfl] at hw279_0)
          (try rw [show 0 * 5 = 0 from rfl] at hw279_0)
          (try rw [Addr.add_zero'] at hw279_0)
          cases e279
          have qi279 : (0 < l0_4.length) = True := eq_true (by omega)
          (try rw [show ((0 : Int)).toNat = 0 from rfl] at hx279_0)
          (try rw [show 0 * 5 = 0 from rfl] at hx279_0)
          (try rw [Addr.add_zero'] at hx279_0)
          (try rw [show ((0 : Int)).toNat = 0 from rfl] at hx279_1)
          (try rw [show 0 * 5 = 0 from rfl] at hx279_1)
          (try rw [Addr.add_zero'] at hx279_1)
          (try rw [show ((0 : Int)).toNat = 0 from rfl] at hx279_2)
          (try rw [show 0 * 5 = 0 from rfl] at hx279_2)
          (try rw [Addr.add_zero'] at hx279_2)
          (try rw [show ((0 : Int)).toNat = 0 from rfl] at hx279_3)
          (try rw [show 0 * 5 = 0 from rfl] at hx279_3)
          (try rw [Addr.add_zero'] at hx279_3)
          (try rw [show ((0 : Int)).toNat = 0 from rfl] at hx279_4)
          (try rw [show 0 * 5 = 0 from rfl] at hx279_4)
          (try rw [Addr.add_zero'] at hx279_4)
          replace hx279_0 := (HB.out.cell (World.block_lt_of_cell? w _ hx279_0)).trans hx279_0
          replace hx279_1 := (HB.out.cell (World.block_lt_of_cell? w _ hx279_1)).trans hx279_1
          replace hx279_2 := (HB.out.cell (World.block_lt_of_cell? w _ hx279_2)).trans hx279_2
          replace hx279_3 := (HB.out.cell (World.block_lt_of_cell? w _ hx279_3)).trans hx279_3
          replace hx279_4 := (HB.out.cell (World.block_lt_of_cell? w _ hx279_4)).trans hx279_4
          have HR279_3 := Aside0.mk hi279_3
          have HC279_3 := Aside0.mk hl279_3
          clear hi279_3 hl279_3
          have HR279_4 := Aside0.mk hi279_4
          have HC279_4 := Aside0.mk hl279_4
          clear hi279_4 hl279_4
          replace p279 := eq_true p279
          replace q279 := eq_true q279
          have p280 : 0 ≤ (t278 : Int) := de_
          have q280 : t278 < (l1_2.length : Int) := de_
          obtain ⟨ad280, A280_1, c280_1, A280_2, c280_2, e280, hx280_0, hx280_1, hx280_2, hl280_1, hi280_1, hl280_2, hi280_2⟩ := at_T44 HR1_2.out t278 p280 q280
          have hw280_2 := hx280_2
          have hw280_1 := hx280_1
          have hw280_0 := hx280_0
          cases e280
          replace hx280_0 := (HB.out.cell (World.block_lt_of_cell? w _ hx280_0)).trans hx280_0
          replace hx280_1 := (HB.out.cell (World.block_lt_of_cell? w _ hx280_1)).trans hx280_1
          replace hx280_2 := (HB.out.cell (World.block_lt_of_cell? w _ hx280_2)).trans hx280_2
          have HR280_1 := Aside0.mk hi280_1
          have HC280_1 := Aside0.mk hl280_1
          clear hi280_1 hl280_1
          have HR280_2 := Aside0.mk hi280_2
          have HC280_2 := Aside0.mk hl280_2
          clear hi280_2 hl280_2
          replace p280 := eq_true p280
          replace q280 := eq_true q280
          refine start_ (n := 20) (S := fun w' => w'.cell? ⟨gb271, 0, none⟩ = some (.int .i64 a0_0) ∧ w'.cell? ⟨gb271, 1, none⟩ = some (.int .i64 a0_1) ∧ w'.cell? ⟨gb271, 2, none⟩ = some (.string a0_2) ∧ w'.cell? ⟨gb271, 3, none⟩ = some (.slice A0_3 l0_3.length c0_3) ∧ w'.cell? ⟨gb271, 4, none⟩ = some (.slice (some ad279) l0_4.length c0_4) ∧ w'.cell? ⟨gb272, 0, none⟩ = some (.int .i64 a1_0) ∧ w'.cell? ⟨gb272, 1, none⟩ = some (.slice A1_1 l1_1.length c1_1) ∧ w'.cell? ⟨gb272, 2, none⟩ = some (.slice (some ad280) l1_2.length c1_2) ∧ w'.cell? ad279 = some (.int .i64 ((rd_T30 l0_4 0).f0)) ∧ w'.cell? ⟨ad279.block, ad279.off + 1, none⟩ = some (.int .i64 ((rd_T30 l0_4 0).f1)) ∧ w'.cell? ⟨ad279.block, ad279.off + 2, none⟩ = some (.string ((rd_T30 l0_4 0).f2)) ∧ w'.cell? ⟨ad279.block, ad279.off + 3, none⟩ = some (.slice A279_3 ((rd_T30 l0_4 0).f3).length c279_3) ∧ w'.cell? ⟨ad279.block, ad279.off + 4, none⟩ = some (.slice A279_4 ((rd_T30 l0_4 0).f4).length c279_4) ∧ w'.cell? (ad280.add ((t278).toNat * 3)) = some (.int .i64 ((rd_T44 l1_2 t278).f0)) ∧ w'.cell? ⟨(ad280.add ((t278).toNat * 3)).block, (ad280.add ((t278).toNat * 3)).off + 1, none⟩ = some (.slice A280_1 ((rd_T44 l1_2 t278).f1).length c280_1) ∧ w'.cell? ⟨(ad280.add ((t278).toNat * 3)).block, (ad280.add ((t278).toNat * 3)).off + 2, none⟩ = some (.slice A280_2 ((rd_T44 l1_2 t278).f2).length c280_2)) (ds := []) #[false, false, false, false, false, false, false, false, false, false, false, false, false, false, false, false, false, false, false, false] (by kernel_rfl) rfl rfl ⟨(blk_cell BK271.out 0).trans rfl, (blk_cell BK271.out 1).trans rfl, (blk_cell BK271.out 2).trans rfl, (blk_cell BK271.out 3).trans rfl, (blk_cell BK271.out 4).trans rfl, (blk_cell BK272.out 0).trans rfl, (blk_cell BK272.out 1).trans rfl, (blk_cell BK272.out 2).trans rfl, ((HB.out.cell (World.block_lt_of_cell? w _ hw279_0)).trans hw279_0), ((HB.out.cell (World.block_lt_of_cell? w _ hw279_1)).trans hw279_1), ((HB.out.cell (World.block_lt_of_cell? w _ hw279_2)).trans hw279_2), ((HB.out.cell (World.block_lt_of_cell? w _ hw279_3)).trans hw279_3), ((HB.out.cell (World.block_lt_of_cell? w _ hw279_4)).trans hw279_4), ((HB.out.cell (World.block_lt_of_cell? w _ hw280_0)).trans hw280_0), ((HB.out.cell (World.block_lt_of_cell? w _ hw280_1)).trans hw280_1), ((HB.out.cell (World.block_lt_of_cell? w _ hw280_2)).trans hw280_2)⟩ (fun hHeld => ?_); refine with_tabW impl_ofType.tab18 impl_ofType.bits18 (fun HT_ HW_ => ?_)
          generalize w60.drew = w64 at BK271 BK272 HB HR279_3 HR279_4 HR280_1 HR280_2 hx279_0 hx279_1 hx279_2 hx279_3 hx279_4 hx280_0 hx280_1 hx280_2 hHeld ⊢
          refine pure_ (i := 0) (N := some 59) (v := ?_) (a' := ?_) #[true, false, false, false, false, false, false, false, false, false, false, false, false, false, false, false, false, false, false, false] rfl rfl (any_of HT_.out (by kernel_rfl)) (fun _ _ _ h => h) (Or.inl ⟨by rfl, ?_⟩) ?_ ?_
          rotate_left
          ·intro w'
           go_simp
           with_reducible rfl
          rotate_left
          ·simp only [Act.put, List.setIfInBounds_toArray, List.set_cons_zero, List.set_cons_succ, i64_w, i32_w]
           rfl
          refine take_ (i := 1) (N := some 60) (v := ?_) (a' := ?_) #[true, true, false, false, false, false, false, false, false, false, false, false, false, false, false, false, false, false, false, false] rfl rfl (take_ofW HT_.out HW_.out (by kernel_rfl)) (fun _ _ _ h => h) (Or.inl ⟨by rfl, ?_⟩) hHeld ?_ ?_
          rotate_left
          ·rintro w' ⟨s0, s1, s2, s3, s4, s5, s6, s7, s8, s9, s10, s11, s12, s13, s14, s15⟩
           go_simp
           with_reducible rfl
          rotate_left
          ·simp only [Act.put, List.setIfInBounds_toArray, List.set_cons_zero, List.set_cons_succ, i64_w, i32_w]
           rfl
          refine pure_ (i := 2) (N := some 61) (v := ?_) (a' := ?_) #[true, true, true, false, false, false, false, false, false, false, false, false, false, false, false, false, false, false, false, false] rfl rfl (any_of HT_.out (by kernel_rfl)) (fun _ _ _ h => h) (Or.inl ⟨by rfl, ?_⟩) ?_ ?_
          rotate_left
          ·intro w'
           go_simp
           with_reducible rfl
          rotate_left
          ·simp only [Act.put, List.setIfInBounds_toArray, List.set_cons_zero, List.set_cons_succ, i64_w, i32_w]
           rfl
          refine pure_ (i := 3) (N := some 62) (v := ?_) (a' := ?_) #[true, true, true, true, false, false, false, false, false, false, false, false, false, false, false, false, false, false, false, false] rfl rfl (any_of HT_.out (by kernel_rfl)) (fun _ _ _ h => h) (Or.inl ⟨by rfl, ?_⟩) ?_ ?_
          rotate_left
          ·intro w'
           go_simp
           with_reducible rfl
          rotate_left
          ·simp only [Act.put, List.setIfInBounds_toArray, List.set_cons_zero, List.set_cons_succ, i64_w, i32_w]
           rfl
          refine pure_ (i := 4) (N := some 63) (v := ?_) (a' := ?_) #[true, true, true, true, true, false, false, false, false, false, false, false, false, false, false, false, false, false, false, false] rfl rfl (any_of HT_.out (by kernel_rfl)) (fun _ _ _ h => h) (Or.inl ⟨by rfl, ?_⟩) ?_ ?_
          rotate_left
          ·intro w'
           go_simp
           with_reducible rfl
          rotate_left
          ·simp only [Act.put, List.setIfInBounds_toArray, List.set_cons_zero, List.set_cons_succ, i64_w, i32_w]
           rfl
          refine pure_ (i := 5) (N := some 64) (v := ?_) (a' := ?_) #[true, true, true, true, true, true, false, false, false, false, false, false, false, false, false, false, false, false, false, false] rfl rfl (any_of HT_.out (by kernel_rfl)) (fun _ _ _ h => h) (Or.inl ⟨by rfl, ?_⟩) ?_ ?_
          rotate_left
          ·intro w'
           go_simp
           with_reducible rfl
          rotate_left
          ·simp only [Act.put, List.setIfInBounds_toArray, List.set_cons_zero, List.set_cons_succ, i64_w, i32_w]
           rfl
          refine pure_ (i := 6) (N := some 65) (v := ?_) (a' := ?_) #[true, true, true, true, true, true, true, false, false, false, false, false, false, false, false, false, false, false, false, false] rfl rfl (any_of HT_.out (by kernel_rfl)) (fun _ _ _ h => h) (Or.inl ⟨by rfl, ?_⟩) ?_ ?_
          rotate_left
          ·intro w'
           go_simp
           with_reducible rfl
          rotate_left
          ·simp only [Act.put, List.setIfInBounds_toArray, List.set_cons_zero, List.set_cons_succ, i64_w, i32_w]
           rfl
          refine pure_ (i := 7) (N := some 66) (v := ?_) (a' := ?_) #[true, true, true, true, true, true, true, true, false, false, false, false, false, false, false, false, false, false, false, false] rfl rfl (any_of HT_.out (by kernel_rfl)) (fun _ _ _ h => h) (Or.inl ⟨by rfl, ?_⟩) ?_ ?_
          rotate_left
          ·intro w'
           go_simp
           with_reducible rfl
          rotate_left
          ·simp only [Act.put, List.setIfInBounds_toArray, List.set_cons_zero, List.set_cons_succ, i64_w, i32_w]
           rfl
          refine pure_ (i := 8) (N := some 67) (v := ?_) (a' := ?_) #[true, true, true, true, true, true, true, true, true, false, false, false, false, false, false, false, false, false, false, false] rfl rfl (any_of HT_.out (by kernel_rfl)) (fun _ _ _ h => h) (Or.inl ⟨by rfl, ?_⟩) ?_ ?_
          rotate_left
          ·intro w'
           go_simp
           with_reducible rfl
          rotate_left
          ·simp only [Act.put, List.setIfInBounds_toArray, List.set_cons_zero, List.set_cons_succ, i64_w, i32_w]
           rfl
          refine pure_ (i := 12) (N := some 71) (v := ?_) (a' := ?_) #[true, true, true, true, true, true, true, true, true, false, false, false, true, false, false, false, false, false, false, false] rfl rfl (any_of HT_.out (by kernel_rfl)) (fun _ _ _ h => h) (Or.inl ⟨by rfl, ?_⟩) ?_ ?_
          rotate_left
          ·intro w'
           go_simp
           with_reducible rfl
          rotate_left
          ·simp only [Act.put, List.setIfInBounds_toArray, List.set_cons_zero, List.set_cons_succ, i64_w, i32_w]
           rfl
          refine pure_ (i := 14) (N := some 73) (v := ?_) (a' := ?_) #[true, true, true, true, true, true, true, true, true, false, false, false, true, false, true, false, false, false, false, false] rfl rfl (any_of HT_.out (by kernel_rfl)) (fun _ _ _ h => h) (Or.inl ⟨by rfl, ?_⟩) ?_ ?_
          rotate_left
          ·intro w'
           go_simp
           with_reducible rfl
          rotate_left
          ·simp only [Act.put, List.setIfInBounds_toArray, List.set_cons_zero, List.set_cons_succ, i64_w, i32_w]
           rfl
          refine take_ (i := 9) (N := some 68) (v := ?_) (a' := ?_) #[true, true, true, true, true, true, true, true, true, true, false, false, true, false, true, false, false, false, false, false] rfl rfl (take_ofW HT_.out HW_.out (by kernel_rfl)) (fun _ _ _ h => h) (Or.inl ⟨by rfl, ?_⟩) hHeld ?_ ?_
          rotate_left
          ·rintro w' ⟨s0, s1, s2, s3, s4, s5, s6, s7, s8, s9, s10, s11, s12, s13, s14, s15⟩
           go_simp
           with_reducible rfl
          rotate_left
          ·simp only [Act.put, List.setIfInBounds_toArray, List.set_cons_zero, List.set_cons_succ, i64_w, i32_w]
           rfl
          refine pure_ (i := 10) (N := some 69) (v := ?_) (a' := ?_) #[true, true, true, true, true, true, true, true, true, true, true, false, true, false, true, false, false, false, false, false] rfl rfl (any_of HT_.out (by kernel_rfl)) (fun _ _ _ h => h) (Or.inl ⟨by rfl, ?_⟩) ?_ ?_
          rotate_left
          ·intro w'
           go_simp
           with_reducible rfl
          rotate_left
          ·simp only [Act.put, List.setIfInBounds_toArray, List.set_cons_zero, List.set_cons_succ, i64_w, i32_w]
           rfl
          refine take_ (i := 11) (N := some 70) (v := ?_) (a' := ?_) #[true, true, true, true, true, true, true, true, true, true, true, true, true, false, true, false, false, false, false, false] rfl rfl (take_ofW HT_.out HW_.out (by kernel_rfl)) (fun _ _ _ h => h) (Or.inl ⟨by rfl, ?_⟩) hHeld ?_ ?_
          rotate_left
          ·rintro w' ⟨s0, s1, s2, s3, s4, s5, s6, s7, s8, s9, s10, s11, s12, s13, s14, s15⟩
           go_simp
           with_reducible rfl
          rotate_left
          ·simp only [Act.put, List.setIfInBounds_toArray, List.set_cons_zero, List.set_cons_succ, i64_w, i32_w]
           rfl
          refine take_ (i := 13) (N := some 72) (v := ?_) (a' := ?_) #[true, true, true, true, true, true, true, true, true, true, true, true, true, true, true, false, false, false, false, false] rfl rfl (take_ofW HT_.out HW_.out (by kernel_rfl)) (fun _ _ _ h => h) (Or.inl ⟨by rfl, ?_⟩) hHeld ?_ ?_
          rotate_left
          ·rintro w' ⟨s0, s1, s2, s3, s4, s5, s6, s7, s8, s9, s10, s11, s12, s13, s14, s15⟩
           go_simp
           with_reducible rfl
          rotate_left
          ·simp only [Act.put, List.setIfInBounds_toArray, List.set_cons_zero, List.set_cons_succ, i64_w, i32_w]
           rfl
          refine pure_ (i := 15) (N := some 74) (v := ?_) (a' := ?_) #[true, true, true, true, true, true, true, true, true, true, true, true, true, true, true, true, false, false, false, false] rfl rfl (any_of HT_.out (by kernel_rfl)) (fun _ _ _ h => h) (Or.inl ⟨by rfl, ?_⟩) ?_ ?_
          rotate_left
          ·intro w'
           go_simp
           with_reducible rfl
          rotate_left
          ·simp only [Act.put, List.setIfInBounds_toArray, List.set_cons_zero, List.set_cons_succ, i64_w, i32_w]
           rfl
          refine take_ (i := 16) (N := some 75) (v := ?_) (a' := ?_) #[true, true, true, true, true, true, true, true, true, true, true, true, true, true, true, true, true, false, false, false] rfl rfl (take_ofW HT_.out HW_.out (by kernel_rfl)) (fun _ _ _ h => h) (Or.inl ⟨by rfl, ?_⟩) hHeld ?_ ?_
          rotate_left
          ·rintro w' ⟨s0, s1, s2, s3, s4, s5, s6, s7, s8, s9, s10, s11, s12, s13, s14, s15⟩
           go_simp
           with_reducible rfl
          rotate_left
          ·simp only [Act.put, List.setIfInBounds_toArray, List.set_cons_zero, List.set_cons_succ, i64_w, i32_w]
           rfl
          refine one_ (i := 17) (N := some 76) #[true, true, true, true, true, true, true, true, true, true, true, true, true, true, true, true, true, true, false, false] rfl rfl (one_of HT_.out (by kernel_rfl)) (by decide) (fun K hK => ?_)
          refine goes_ Try.func69 (by kernel_rfl) rfl #[.agg #[.int .i64 ((rd_T30 l0_4 0).f0), .int .i64 ((rd_T30 l0_4 0).f1), .string ((rd_T30 l0_4 0).f2), .slice A279_3 ((rd_T30 l0_4 0).f3).length c279_3, .slice A279_4 ((rd_T30 l0_4 0).f4).length c279_4], .agg #[.int .i64 ((rd_T44 l1_2 t278).f0), .slice A280_1 ((rd_T44 l1_2 t278).f1).length c280_1, .slice A280_2 ((rd_T44 l1_2 t278).f2).length c280_2]] (by rfl) rfl rfl ma_ ?_
          with_reducible refine (ih k (by omega) ((rd_T30 l0_4 0).f0) ((rd_T30 l0_4 0).f1) ((rd_T30 l0_4 0).f2) _ _ ((rd_T30 l0_4 0).f3) _ _ ((rd_T30 l0_4 0).f4) ((rd_T44 l1_2 t278).f0) _ _ ((rd_T44 l1_2 t278).f1) _ _ ((rd_T44 l1_2 t278).f2) t281 _ ?side1 ?side2 ?side3 ?side4 ?side5 ?side6 ?side7 ?side8 A58.out).mono ?_
          (case side1 => exact C_ (Kd.C_below HR279_3.out HB.out))
          (case side2 => exact HC279_3.out)
          (case side3 => exact C_ (Kd.C_below HR279_4.out HB.out))
          (case side4 => exact HC279_4.out)
          (case side5 => exact C_ (Kd.C_below HR280_1.out HB.out))
          (case side6 => exact HC280_1.out)
          (case side7 => exact C_ (Kd.C_below HR280_2.out HB.out))
          (case side8 => exact HC280_2.out)
          rintro e w65 ⟨rfl, hb⟩
          refine ⟨_, rfl, ?_⟩
          replace BK271 := Aside0.mk (blk_below (K_ BK271.out) hb)
          replace BK272 := Aside0.mk (blk_below (K_ BK272.out) hb)
          replace HB := Aside0.mk (below_step (B2_ HB.out GE271.out GE272.out) hb)
          (try clear hb)
          (try clear hb2)
          (try clear hk)
          (try clear hi)
          refine hK.out _ _ ⟨(blk_cell BK271.out 0).trans rfl, (blk_cell BK271.out 1).trans rfl, (blk_cell BK271.out 2).trans rfl, (blk_cell BK271.out 3).trans rfl, (blk_cell BK271.out 4).trans rfl, (blk_cell BK272.out 0).trans rfl, (blk_cell BK272.out 1).trans rfl, (blk_cell BK272.out 2).trans rfl, ((HB.out.cell (World.block_lt_of_cell? w _ hw279_0)).trans hw279_0), ((HB.out.cell (World.block_lt_of_cell? w _ hw279_1)).trans hw279_1), ((HB.out.cell (World.block_lt_of_cell? w _ hw279_2)).trans hw279_2), ((HB.out.cell (World.block_lt_of_cell? w _ hw279_3)).trans hw279_3), ((HB.out.cell (World.block_lt_of_cell? w _ hw279_4)).trans hw279_4), ((HB.out.cell (World.block_lt_of_cell? w _ hw280_0)).trans hw280_0), ((HB.out.cell (World.block_lt_of_cell? w _ hw280_1)).trans hw280_1), ((HB.out.cell (World.block_lt_of_cell? w _ hw280_2)).trans hw280_2)⟩ (fun hHeld => ?_)
          clear hK K
          refine norm_ (a' := ?_) ?_ ?_
          rotate_left
          ·show Act.put _ (some 76) _ = _
           simp only [Act.put, List.setIfInBounds_toArray, List.set_cons_zero, List.set_cons_succ, i64_w, i32_w]
           rfl
          refine pure_ (i := 18) (N := some 77) (v := ?_) (a' := ?_) #[true, true, true, true, true, true, true, true, true, true, true, true, true, true, true, true, true, true, true, false] rfl rfl (any_of HT_.out (by kernel_rfl)) (fun _ _ _ h => h) (Or.inl ⟨by rfl, ?_⟩) ?_ ?_
          rotate_left
          ·intro w'
           go_simp
           with_reducible rfl
          rotate_left
          ·simp only [Act.put, List.setIfInBounds_toArray, List.set_cons_zero, List.set_cons_succ, i64_w, i32_w]
           rfl
          refine pure_ (i := 19) (N := some 4) (v := ?_) (a' := ?_) #[true, true, true, true, true, true, true, true, true, true, true, true, true, true, true, true, true, true, true, true] rfl rfl (any_of HT_.out (by kernel_rfl)) (fun _ _ _ h => h) (Or.inl ⟨by rfl, ?_⟩) ?_ ?_
          rotate_left
          ·intro w'
           go_simp
           with_reducible rfl
          rotate_left
          ·simp only [Act.put, List.setIfInBounds_toArray, List.set_cons_zero, List.set_cons_succ, i64_w, i32_w]
           rfl
          refine done_ (done_of HT_.out (by kernel_rfl)) ?_
          try go_wp2
          go_ret
          exact ⟨er_, B2_ HB.out GE271.out GE272.out⟩
         ·rw [if_neg c57] at H
          exact absurd H (by simp)
        ·rw [if_neg c56] at H
         exact absurd H (by simp)
       ·rw [if_neg c55] at H
        exact absurd H (by simp)
      ·rw [if_neg c54] at H
       have c54b0 : decide (0 ≤ t278) = false := decide_eq_false c54
       clear c54
       obtain rfl := Option.some.inj H
       go_enter Try.func69, Try.ntmps69
       try go_wp2_with (first | ((with_reducible refine gate_dst (N := 2) rfl ?_); refine box_event ?hg (N := 2) ?hd (cs := #[.int .i64 a0_0, .int .i64 a0_1, .string a0_2, .slice A0_3 l0_3.length c0_3, .slice A0_4 l0_4.length c0_4]) (t := 30) ?hr ?_; (case hd => rfl); (case hg => rfl); (case hr => first | (go_simp; done) | (go_simp; rfl)); intro gb271 hg w66 hbox hb; have BK271 := Aside0.mk (hbox); have GW271 := Aside0.mk ((by rw [hg]; exact (below_size (B0_ HB.out)) : w.heap.size ≤ gb271)); have GE271 := Aside0.mk ((by rw [hg]; exact (below_size (B0_ HB.out)) : w.heap.size ≤ gb271)); replace HB := Aside0.mk (below_step (B0_ HB.out) hb); clear hb hbox hg) | ((with_reducible refine gate_dst (N := 3) rfl ?_); refine box_event ?hg (N := 3) ?hd (cs := #[.int .i64 a1_0, .slice A1_1 l1_1.length c1_1, .slice A1_2 l1_2.length c1_2]) (t := 44) ?hr ?_; (case hd => rfl); (case hg => rfl); (case hr => first | (go_simp; done) | (go_simp; rfl)); intro gb272 hg w67 hbox hb; have BK272 := Aside0.mk (hbox); have GW272 := Aside0.mk ((by rw [hg]; exact (below_size (B1_ HB.out GE271.out)) : w.heap.size ≤ gb272)); have GE272 := Aside0.mk ((by rw [hg]; exact (below_size (B1_ HB.out GE271.out)) : w.heap.size ≤ gb272)); replace HB := Aside0.mk (below_step (B1_ HB.out GE271.out) hb); have NB271_272 := Aside0.mk ((by rw [hg]; exact Nat.ne_of_lt (blk_lt (K_ BK271.out)) : gb271 ≠ gb272)); have NB272_271 := Aside0.mk ((by rw [hg]; exact Nat.ne_of_gt (blk_lt (K_ BK271.out)) : gb272 ≠ gb271)); replace BK271 := Aside0.mk (blk_below (K_ BK271.out) hb); clear hb hbox hg; have hnb68 := NB272_271.out; have hnc68 := NB271_272.out; obtain ⟨hcz69_0, hcz69_1, hcz69_2, hfz69_0, hfz69_1, hfz69_2⟩ := box3_ BK272.out; obtain ⟨hcz70_0, hcz70_1, hcz70_2, hcz70_3, hcz70_4, hfz70_0, hfz70_1, hfz70_2, hfz70_3, hfz70_4⟩ := box5_ BK271.out) | ((with_reducible refine gate_callee (f := 101) rfl ?_); refine goesL_ (some 58) rfl rfl Try.func101 (by kernel_rfl) rfl #[.slice A1_1 l1_1.length c1_1, .string a0_2] rfl ma_ ?_; (with_reducible refine (impl_IndexOf.calls k _ _ l1_1 a0_2 t278 _ ?side1 ?side2 A52.out).mono ?_); (case side1 => exact C_ (Kd.C_below HR1_1.out HB.out)); (case side2 => exact HC1_1.out); rintro e w' ⟨rfl, ⟨nd, rfl⟩⟩; refine ⟨_, rfl, ?_⟩))
       (try (rw [drewN_self w67]; generalize hq_ : World.drewN w67 _ = w67; have n0_ : Aside0 (w67.heap[gb271]? = some (.cells #[.int .i64 a0_0, .int .i64 a0_1, .string a0_2, .slice A0_3 l0_3.length c0_3, .slice A0_4 l0_4.length c0_4] 30 (0, 0))) := ⟨by rw [← hq_]; exact (K_ BK271.out)⟩; have n1_ : Aside0 (w67.heap[gb272]? = some (.cells #[.int .i64 a1_0, .slice A1_1 l1_1.length c1_1, .slice A1_2 l1_2.length c1_2] 44 (0, 0))) := ⟨by rw [← hq_]; exact (K_ BK272.out)⟩; have n2_ : Aside0 (Below w.heap.size w w67) := ⟨by rw [← hq_]; exact (B2_ HB.out GE271.out GE272.out)⟩; clear BK271 BK272 HB hq_; have BK271 := n0_; have BK272 := n1_; have HB := n2_; clear n0_ n1_ n2_))
       replace BK271 := Aside0.mk (blk_drew BK271.out)
       replace BK272 := Aside0.mk (blk_drew BK272.out)
       replace HB := Aside0.mk (below_drew1 HB.out)
       refine start_ (n := 20) (S := fun w' => w'.cell? ⟨gb271, 0, none⟩ = some (.int .i64 a0_0) ∧ w'.cell? ⟨gb271, 1, none⟩ = some (.int .i64 a0_1) ∧ w'.cell? ⟨gb271, 2, none⟩ = some (.string a0_2) ∧ w'.cell? ⟨gb271, 3, none⟩ = some (.slice A0_3 l0_3.length c0_3) ∧ w'.cell? ⟨gb271, 4, none⟩ = some (.slice A0_4 l0_4.length c0_4)) (ds := []) #[false, false, false, false, false, false, false, false, false, false, false, false, false, false, false, false, false, false, false, false] (by kernel_rfl) rfl rfl ⟨(blk_cell BK271.out 0).trans rfl, (blk_cell BK271.out 1).trans rfl, (blk_cell BK271.out 2).trans rfl, (blk_cell BK271.out 3).trans rfl, (blk_cell BK271.out 4).trans rfl⟩ (fun hHeld => ?_); refine with_tabW impl_ofType.tab18 impl_ofType.bits18 (fun HT_ HW_ => ?_)
       generalize w67.drew = w71 at BK271 BK272 HB hHeld ⊢
       refine pure_ (i := 0) (N := some 59) (v := ?_) (a' := ?_) #[true, false, false, false, false, false, false, false, false, false, false, false, false, false, false, false, false, false, false, false] rfl rfl (any_of HT_.out (by kernel_rfl)) (fun _ _ _ h => h) (Or.inl ⟨by rfl, ?_⟩) ?_ ?_
       rotate_left
       ·intro w'
        go_simp
        with_reducible rfl
       rotate_left
       ·simp only [Act.put, List.setIfInBounds_toArray, List.set_cons_zero, List.set_cons_succ, i64_w, i32_w]
        rfl
       refine take_ (i := 1) (N := some 60) (v := ?_) (a' := ?_) #[true, true, false, false, false, false, false, false, false, false, false, false, false, false, false, false, false, false, false, false] rfl rfl (take_ofW HT_.out HW_.out (by kernel_rfl)) (fun _ _ _ h => h) (Or.inl ⟨by rfl, ?_⟩) hHeld ?_ ?_
       rotate_left
       ·rintro w' ⟨s0, s1, s2, s3, s4⟩
        go_simp
        with_reducible rfl
       rotate_left
       ·simp only [Act.put, List.setIfInBounds_toArray, List.set_cons_zero, List.set_cons_succ, i64_w, i32_w]
        rfl
       refine pure_ (i := 2) (N := some 61) (v := ?_) (a' := ?_) #[true, true, true, false, false, false, false, false, false, false, false, false, false, false, false, false, false, false, false, false] rfl rfl (any_of HT_.out (by kernel_rfl)) (fun _ _ _ h => h) (Or.inl ⟨by rfl, ?_⟩) ?_ ?_
       rotate_left
       ·intro w'
        go_simp
        with_reducible rfl
       rotate_left
       ·simp only [Act.put, List.setIfInBounds_toArray, List.set_cons_zero, List.set_cons_succ, i64_w, i32_w]
        rfl
       refine pure_ (i := 3) (N := some 62) (v := ?_) (a' := ?_) #[true, true, true, true, false, false, false, false, false, false, false, false, false, false, false, false, false, false, false, false] rfl rfl (any_of HT_.out (by kernel_rfl)) (fun _ _ _ h => h) (Or.inl ⟨by rfl, ?_⟩) ?_ ?_
       rotate_left
       ·intro w'
        go_simp
        with_reducible rfl
       rotate_left
       ·simp only [Act.put, List.setIfInBounds_toArray, List.set_cons_zero, List.set_cons_succ, i64_w, i32_w]
        rfl
       refine pure_ (i := 4) (N := some 63) (v := ?_) (a' := ?_) #[true, true, true, true, true, false, false, false, false, false, false, false, false, false, false, false, false, false, false, false] rfl rfl (any_of HT_.out (by kernel_rfl)) (fun _ _ _ h => h) (Or.inl ⟨by rfl, ?_⟩) ?_ ?_
       rotate_left
       ·intro w'
        go_simp
        with_reducible rfl
       rotate_left
       ·simp only [Act.put, List.setIfInBounds_toArray, List.set_cons_zero, List.set_cons_succ, i64_w, i32_w]
        rfl
       refine pure_ (i := 5) (N := some 64) (v := ?_) (a' := ?_) #[true, true, true, true, true, true, false, false, false, false, false, false, false, false, false, false, false, false, false, false] rfl rfl (any_of HT_.out (by kernel_rfl)) (fun _ _ _ h => h) (Or.inl ⟨by rfl, ?_⟩) ?_ ?_
       rotate_left
       ·intro w'
        go_simp
        with_reducible rfl
       rotate_left
       ·simp only [Act.put, List.setIfInBounds_toArray, List.set_cons_zero, List.set_cons_succ, i64_w, i32_w]
        rfl
       refine pure_ (i := 6) (N := some 65) (v := ?_) (a' := ?_) #[true, true, true, true, true, true, true, false, false, false, false, false, false, false, false, false, false, false, false, false] rfl rfl (any_of HT_.out (by kernel_rfl)) (fun _ _ _ h => h) (Or.inl ⟨by rfl, ?_⟩) ?_ ?_
       rotate_left
       ·intro w'
        go_simp
        with_reducible rfl
       rotate_left
       ·simp only [Act.put, List.setIfInBounds_toArray, List.set_cons_zero, List.set_cons_succ, i64_w, i32_w]
        rfl
       refine pure_ (i := 7) (N := some 66) (v := ?_) (a' := ?_) #[true, true, true, true, true, true, true, true, false, false, false, false, false, false, false, false, false, false, false, false] rfl rfl (any_of HT_.out (by kernel_rfl)) (fun _ _ _ h => h) (Or.inl ⟨by rfl, ?_⟩) ?_ ?_
       rotate_left
       ·intro w'
        go_simp
        with_reducible rfl
       rotate_left
       ·simp only [Act.put, List.setIfInBounds_toArray, List.set_cons_zero, List.set_cons_succ, i64_w, i32_w]
        rfl
       refine pure_ (i := 8) (N := some 67) (v := undef) (a' := ?_) #[true, true, true, true, true, true, true, true, true, false, false, false, false, false, false, false, false, false, false, false] rfl rfl (any_of HT_.out (by kernel_rfl)) (fun _ _ _ h => h) (Or.inr ⟨by rfl, rfl⟩) ?_ ?_
       rotate_left
       ·simp only [Act.put, List.setIfInBounds_toArray, List.set_cons_zero, List.set_cons_succ, i64_w, i32_w]
        rfl
       refine pure_ (i := 9) (N := some 68) (v := undef) (a' := ?_) #[true, true, true, true, true, true, true, true, true, true, false, false, false, false, false, false, false, false, false, false] rfl rfl (any_of HT_.out (by kernel_rfl)) (fun _ _ _ h => h) (Or.inr ⟨by rfl, rfl⟩) ?_ ?_
       rotate_left
       ·simp only [Act.put, List.setIfInBounds_toArray, List.set_cons_zero, List.set_cons_succ, i64_w, i32_w]
        rfl
       refine pure_ (i := 10) (N := some 69) (v := undef) (a' := ?_) #[true, true, true, true, true, true, true, true, true, true, true, false, false, false, false, false, false, false, false, false] rfl rfl (any_of HT_.out (by kernel_rfl)) (fun _ _ _ h => h) (Or.inr ⟨by rfl, rfl⟩) ?_ ?_
       rotate_left
       ·simp only [Act.put, List.setIfInBounds_toArray, List.set_cons_zero, List.set_cons_succ, i64_w, i32_w]
        rfl
       refine pure_ (i := 11) (N := some 70) (v := undef) (a' := ?_) #[true, true, true, true, true, true, true, true, true, true, true, true, false, false, false, false, false, false, false, false] rfl rfl (any_of HT_.out (by kernel_rfl)) (fun _ _ _ h => h) (Or.inr ⟨by rfl, rfl⟩) ?_ ?_
       rotate_left
       ·simp only [Act.put, List.setIfInBounds_toArray, List.set_cons_zero, List.set_cons_succ, i64_w, i32_w]
        rfl
       refine pure_ (i := 12) (N := some 71) (v := undef) (a' := ?_) #[true, true, true, true, true, true, true, true, true, true, true, true, true, false, false, false, false, false, false, false] rfl rfl (any_of HT_.out (by kernel_rfl)) (fun _ _ _ h => h) (Or.inr ⟨by rfl, rfl⟩) ?_ ?_
       rotate_left
       ·simp only [Act.put, List.setIfInBounds_toArray, List.set_cons_zero, List.set_cons_succ, i64_w, i32_w]
        rfl
       refine pure_ (i := 13) (N := some 72) (v := undef) (a' := ?_) #[true, true, true, true, true, true, true, true, true, true, true, true, true, true, false, false, false, false, false, false] rfl rfl (any_of HT_.out (by kernel_rfl)) (fun _ _ _ h => h) (Or.inr ⟨by rfl, rfl⟩) ?_ ?_
       rotate_left
       ·simp only [Act.put, List.setIfInBounds_toArray, List.set_cons_zero, List.set_cons_succ, i64_w, i32_w]
        rfl
       refine pure_ (i := 14) (N := some 73) (v := undef) (a' := ?_) #[true, true, true, true, true, true, true, true, true, true, true, true, true, true, true, false, false, false, false, false] rfl rfl (any_of HT_.out (by kernel_rfl)) (fun _ _ _ h => h) (Or.inr ⟨by rfl, rfl⟩) ?_ ?_
       rotate_left
       ·simp only [Act.put, List.setIfInBounds_toArray, List.set_cons_zero, List.set_cons_succ, i64_w, i32_w]
        rfl
       refine pure_ (i := 15) (N := some 74) (v := undef) (a' := ?_) #[true, true, true, true, true, true, true, true, true, true, true, true, true, true, true, true, false, false, false, false] rfl rfl (any_of HT_.out (by kernel_rfl)) (fun _ _ _ h => h) (Or.inr ⟨by rfl, rfl⟩) ?_ ?_
       rotate_left
       ·simp only [Act.put, List.setIfInBounds_toArray, List.set_cons_zero, List.set_cons_succ, i64_w, i32_w]
        rfl
       refine pure_ (i := 16) (N := some 75) (v := undef) (a' := ?_) #[true, true, true, true, true, true, true, true, true, true, true, true, true, true, true, true, true, false, false, false] rfl rfl (any_of HT_.out (by kernel_rfl)) (fun _ _ _ h => h) (Or.inr ⟨by rfl, rfl⟩) ?_ ?_
       rotate_left
       ·simp only [Act.put, List.setIfInBounds_toArray, List.set_cons_zero, List.set_cons_succ, i64_w, i32_w]
        rfl
       refine pure_ (i := 17) (N := some 76) (v := undef) (a' := ?_) #[true, true, true, true, true, true, true, true, true, true, true, true, true, true, true, true, true, true, false, false] rfl rfl (any_of HT_.out (by kernel_rfl)) (fun _ _ _ h => h) (Or.inr ⟨by rfl, rfl⟩) ?_ ?_
       rotate_left
       ·simp only [Act.put, List.setIfInBounds_toArray, List.set_cons_zero, List.set_cons_succ, i64_w, i32_w]
        rfl
       refine pure_ (i := 18) (N := some 77) (v := ?_) (a' := ?_) #[true, true, true, true, true, true, true, true, true, true, true, true, true, true, true, true, true, true, true, false] rfl rfl (any_of HT_.out (by kernel_rfl)) (fun _ _ _ h => h) (Or.inl ⟨by rfl, ?_⟩) ?_ ?_
       rotate_left
       ·intro w'
        go_simp
        with_reducible rfl
       rotate_left
       ·simp only [Act.put, List.setIfInBounds_toArray, List.set_cons_zero, List.set_cons_succ, i64_w, i32_w]
        rfl
       refine pure_ (i := 19) (N := some 4) (v := ?_) (a' := ?_) #[true, true, true, true, true, true, true, true, true, true, true, true, true, true, true, true, true, true, true, true] rfl rfl (any_of HT_.out (by kernel_rfl)) (fun _ _ _ h => h) (Or.inl ⟨by rfl, ?_⟩) ?_ ?_
       rotate_left
       ·intro w'
        go_simp
        with_reducible rfl
       rotate_left
       ·simp only [Act.put, List.setIfInBounds_toArray, List.set_cons_zero, List.set_cons_succ, i64_w, i32_w]
        rfl
       refine done_ (done_of HT_.out (by kernel_rfl)) ?_
       try go_wp2
       go_ret
       exact ⟨er_, B2_ HB.out GE271.out GE272.out⟩
     ·rw [if_neg c53] at H
      have c53b0 : (a0_0 == 4) = false := beq_eq_false_iff_ne.mpr c53
      have c53b1 : (a0_0 != 4) = true := bne_iff_ne.mpr c53
      obtain rfl := Option.some.inj H
      go_enter Try.func69, Try.ntmps69
      try go_wp2_with (first | ((with_reducible refine gate_dst (N := 2) rfl ?_); refine box_event ?hg (N := 2) ?hd (cs := #[.int .i64 a0_0, .int .i64 a0_1, .string a0_2, .slice A0_3 l0_3.length c0_3, .slice A0_4 l0_4.length c0_4]) (t := 30) ?hr ?_; (case hd => rfl); (case hg => rfl); (case hr => first | (go_simp; done) | (go_simp; rfl)); intro gb271 hg w72 hbox hb; have BK271 := Aside0.mk (hbox); have GW271 := Aside0.mk ((by rw [hg]; exact (below_size (B0_ HB.out)) : w.heap.size ≤ gb271)); have GE271 := Aside0.mk ((by rw [hg]; exact (below_size (B0_ HB.out)) : w.heap.size ≤ gb271)); replace HB := Aside0.mk (below_step (B0_ HB.out) hb); clear hb hbox hg) | ((with_reducible refine gate_dst (N := 3) rfl ?_); refine box_event ?hg (N := 3) ?hd (cs := #[.int .i64 a1_0, .slice A1_1 l1_1.length c1_1, .slice A1_2 l1_2.length c1_2]) (t := 44) ?hr ?_; (case hd => rfl); (case hg => rfl); (case hr => first | (go_simp; done) | (go_simp; rfl)); intro gb272 hg w73 hbox hb; have BK272 := Aside0.mk (hbox); have GW272 := Aside0.mk ((by rw [hg]; exact (below_size (B1_ HB.out GE271.out)) : w.heap.size ≤ gb272)); have GE272 := Aside0.mk ((by rw [hg]; exact (below_size (B1_ HB.out GE271.out)) : w.heap.size ≤ gb272)); replace HB := Aside0.mk (below_step (B1_ HB.out GE271.out) hb); have NB271_272 := Aside0.mk ((by rw [hg]; exact Nat.ne_of_lt (blk_lt (K_ BK271.out)) : gb271 ≠ gb272)); have NB272_271 := Aside0.mk ((by rw [hg]; exact Nat.ne_of_gt (blk_lt (K_ BK271.out)) : gb272 ≠ gb271)); replace BK271 := Aside0.mk (blk_below (K_ BK271.out) hb); clear hb hbox hg; have hnb74 := NB272_271.out; have hnc74 := NB271_272.out; obtain ⟨hcz75_0, hcz75_1, hcz75_2, hfz75_0, hfz75_1, hfz75_2⟩ := box3_ BK272.out; obtain ⟨hcz76_0, hcz76_1, hcz76_2, hcz76_3, hcz76_4, hfz76_0, hfz76_1, hfz76_2, hfz76_3, hfz76_4⟩ := box5_ BK271.out) | ((with_reducible refine gate_callee (f := 101) rfl ?_); refine goesL_ (some 58) rfl rfl Try.func101 (by kernel_rfl) rfl #[.slice A1_1 l1_1.length c1_1, .string a0_2] rfl ma_ ?_; (with_reducible refine (impl_IndexOf.calls k _ _ l1_1 a0_2 t278 _ ?side1 ?side2 A52.out).mono ?_); (case side1 => exact C_ (Kd.C_below HR1_1.out HB.out)); (case side2 => exact HC1_1.out); rintro e w' ⟨rfl, ⟨nd, rfl⟩⟩; refine ⟨_, rfl, ?_⟩))
      (try (rw [drewN_self w73]; generalize hq_ : World.drewN w73 _ = w73; have n0_ : Aside0 (w73.heap[gb271]? = some (.cells #[.int .i64 a0_0, .int .i64 a0_1, .string a0_2, .slice A0_3 l0_3.length c0_3, .slice A0_4 l0_4.length c0_4] 30 (0, 0))) := ⟨by rw [← hq_]; exact (K_ BK271.out)⟩; have n1_ : Aside0 (w73.heap[gb272]? = some (.cells #[.int .i64 a1_0, .slice A1_1 l1_1.length c1_1, .slice A1_2 l1_2.length c1_2] 44 (0, 0))) := ⟨by rw [← hq_]; exact (K_ BK272.out)⟩; have n2_ : Aside0 (Below w.heap.size w w73) := ⟨by rw [← hq_]; exact (B2_ HB.out GE271.out GE272.out)⟩; clear BK271 BK272 HB hq_; have BK271 := n0_; have BK272 := n1_; have HB := n2_; clear n0_ n1_ n2_))
      replace BK271 := Aside0.mk (blk_drew BK271.out)
      replace BK272 := Aside0.mk (blk_drew BK272.out)
      replace HB := Aside0.mk (below_drew1 HB.out)
      refine start_ (n := 20) (S := fun w' => w'.cell? ⟨gb271, 0, none⟩ = some (.int .i64 a0_0) ∧ w'.cell? ⟨gb271, 1, none⟩ = some (.int .i64 a0_1) ∧ w'.cell? ⟨gb271, 2, none⟩ = some (.string a0_2) ∧ w'.cell? ⟨gb271, 3, none⟩ = some (.slice A0_3 l0_3.length c0_3) ∧ w'.cell? ⟨gb271, 4, none⟩ = some (.slice A0_4 l0_4.length c0_4)) (ds := []) #[false, false, false, false, false, false, false, false, false, false, false, false, false, false, false, false, false, false, false, false] (by kernel_rfl) rfl rfl ⟨(blk_cell BK271.out 0).trans rfl, (blk_cell BK271.out 1).trans rfl, (blk_cell BK271.out 2).trans rfl, (blk_cell BK271.out 3).trans rfl, (blk_cell BK271.out 4).trans rfl⟩ (fun hHeld => ?_); refine with_tabW impl_ofType.tab18 impl_ofType.bits18 (fun HT_ HW_ => ?_)
      generalize w73.drew = w77 at BK271 BK272 HB hHeld ⊢
      refine pure_ (i := 0) (N := some 59) (v := ?_) (a' := ?_) #[true, false, false, false, false, false, false, false, false, false, false, false, false, false, false, false, false, false, false, false] rfl rfl (any_of HT_.out (by kernel_rfl)) (fun _ _ _ h => h) (Or.inl ⟨by rfl, ?_⟩) ?_ ?_
      rotate_left
      ·intro w'
       go_simp
       with_reducible rfl
      rotate_left
      ·simp only [Act.put, List.setIfInBounds_toArray, List.set_cons_zero, List.set_cons_succ, i64_w, i32_w]
       rfl
      refine take_ (i := 1) (N := some 60) (v := ?_) (a' := ?_) #[true, true, false, false, false, false, false, false, false, false, false, false, false, false, false, false, false, false, false, false] rfl rfl (take_ofW HT_.out HW_.out (by kernel_rfl)) (fun _ _ _ h => h) (Or.inl ⟨by rfl, ?_⟩) hHeld ?_ ?_
      rotate_left
      ·rintro w' ⟨s0, s1, s2, s3, s4⟩
       go_simp
       with_reducible rfl
      rotate_left
      ·simp only [Act.put, List.setIfInBounds_toArray, List.set_cons_zero, List.set_cons_succ, i64_w, i32_w]
       rfl
      refine pure_ (i := 2) (N := some 61) (v := ?_) (a' := ?_) #[true, true, true, false, false, false, false, false, false, false, false, false, false, false, false, false, false, false, false, false] rfl rfl (any_of HT_.out (by kernel_rfl)) (fun _ _ _ h => h) (Or.inl ⟨by rfl, ?_⟩) ?_ ?_
      rotate_left
      ·intro w'
       go_simp
       with_reducible rfl
      rotate_left
      ·simp only [Act.put, List.setIfInBounds_toArray, List.set_cons_zero, List.set_cons_succ, i64_w, i32_w]
       rfl
      refine pure_ (i := 3) (N := some 62) (v := ?_) (a' := ?_) #[true, true, true, true, false, false, false, false, false, false, false, false, false, false, false, false, false, false, false, false] rfl rfl (any_of HT_.out (by kernel_rfl)) (fun _ _ _ h => h) (Or.inl ⟨by rfl, ?_⟩) ?_ ?_
      rotate_left
      ·intro w'
       go_simp
       with_reducible rfl
      rotate_left
      ·simp only [Act.put, List.setIfInBounds_toArray, List.set_cons_zero, List.set_cons_succ, i64_w, i32_w]
       rfl
      refine pure_ (i := 4) (N := some 63) (v := undef) (a' := ?_) #[true, true, true, true, true, false, false, false, false, false, false, false, false, false, false, false, false, false, false, false] rfl rfl (any_of HT_.out (by kernel_rfl)) (fun _ _ _ h => h) (Or.inr ⟨by rfl, rfl⟩) ?_ ?_
      rotate_left
      ·simp only [Act.put, List.setIfInBounds_toArray, List.set_cons_zero, List.set_cons_succ, i64_w, i32_w]
       rfl
      refine pure_ (i := 5) (N := some 64) (v := undef) (a' := ?_) #[true, true, true, true, true, true, false, false, false, false, false, false, false, false, false, false, false, false, false, false] rfl rfl (any_of HT_.out (by kernel_rfl)) (fun _ _ _ h => h) (Or.inr ⟨by rfl, rfl⟩) ?_ ?_
      rotate_left
      ·simp only [Act.put, List.setIfInBounds_toArray, List.set_cons_zero, List.set_cons_succ, i64_w, i32_w]
       rfl
      refine pure_ (i := 6) (N := some 65) (v := ?_) (a' := ?_) #[true, true, true, true, true, true, true, false, false, false, false, false, false, false, false, false, false, false, false, false] rfl rfl (any_of HT_.out (by kernel_rfl)) (fun _ _ _ h => h) (Or.inl ⟨by rfl, ?_⟩) ?_ ?_
      rotate_left
      ·intro w'
       go_simp
       with_reducible rfl
      rotate_left
      ·simp only [Act.put, List.setIfInBounds_toArray, List.set_cons_zero, List.set_cons_succ, i64_w, i32_w]
       rfl
      refine pure_ (i := 7) (N := some 66) (v := ?_) (a' := ?_) #[true, true, true, true, true, true, true, true, false, false, false, false, false, false, false, false, false, false, false, false] rfl rfl (any_of HT_.out (by kernel_rfl)) (fun _ _ _ h => h) (Or.inl ⟨by rfl, ?_⟩) ?_ ?_
      rotate_left
      ·intro w'
       go_simp
       with_reducible rfl
      rotate_left
      ·simp only [Act.put, List.setIfInBounds_toArray, List.set_cons_zero, List.set_cons_succ, i64_w, i32_w]
       rfl
      refine pure_ (i := 8) (N := some 67) (v := undef) (a' := ?_) #[true, true, true, true, true, true, true, true, true, false, false, false, false, false, false, false, false, false, false, false] rfl rfl (any_of HT_.out (by kernel_rfl)) (fun _ _ _ h => h) (Or.inr ⟨by rfl, rfl⟩) ?_ ?_
      rotate_left
      ·simp only [Act.put, List.setIfInBounds_toArray, List.set_cons_zero, List.set_cons_succ, i64_w, i32_w]
       rfl
      refine pure_ (i := 9) (N := some 68) (v := undef) (a' := ?_) #[true, true, true, true, true, true, true, true, true, true, false, false, false, false, false, false, false, false, false, false] rfl rfl (any_of HT_.out (by kernel_rfl)) (fun _ _ _ h => h) (Or.inr ⟨by rfl, rfl⟩) ?_ ?_
      rotate_left
      ·simp only [Act.put, List.setIfInBounds_toArray, List.set_cons_zero, List.set_cons_succ, i64_w, i32_w]
       rfl
      refine pure_ (i := 10) (N := some 69) (v := undef) (a' := ?_) #[true, true, true, true, true, true, true, true, true, true, true, false, false, false, false, false, false, false, false, false] rfl rfl (any_of HT_.out (by kernel_rfl)) (fun _ _ _ h => h) (Or.inr ⟨by rfl, rfl⟩) ?_ ?_
      rotate_left
      ·simp only [Act.put, List.setIfInBounds_toArray, List.set_cons_zero, List.set_cons_succ, i64_w, i32_w]
       rfl
      refine pure_ (i := 11) (N := some 70) (v := undef) (a' := ?_) #[true, true, true, true, true, true, true, true, true, true, true, true, false, false, false, false, false, false, false, false] rfl rfl (any_of HT_.out (by kernel_rfl)) (fun _ _ _ h => h) (Or.inr ⟨by rfl, rfl⟩) ?_ ?_
      rotate_left
      ·simp only [Act.put, List.setIfInBounds_toArray, List.set_cons_zero, List.set_cons_succ, i64_w, i32_w]
       rfl
      refine pure_ (i := 12) (N := some 71) (v := undef) (a' := ?_) #[true, true, true, true, true, true, true, true, true, true, true, true, true, false, false, false, false, false, false, false] rfl rfl (any_of HT_.out (by kernel_rfl)) (fun _ _ _ h => h) (Or.inr ⟨by rfl, rfl⟩) ?_ ?_
      rotate_left
      ·simp only [Act.put, List.setIfInBounds_toArray, List.set_cons_zero, List.set_cons_succ, i64_w, i32_w]
       rfl
      refine pure_ (i := 13) (N := some 72) (v := undef) (a' := ?_) #[true, true, true, true, true, true, true, true, true, true, true, true, true, true, false, false, false, false, false, false] rfl rfl (any_of HT_.out (by kernel_rfl)) (fun _ _ _ h => h) (Or.inr ⟨by rfl, rfl⟩) ?_ ?_
      rotate_left
      ·simp only [Act.put, List.setIfInBounds_toArray, List.set_cons_zero, List.set_cons_succ, i64_w, i32_w]
       rfl
      refine pure_ (i := 14) (N := some 73) (v := undef) (a' := ?_) #[true, true, true, true, true, true, true, true, true, true, true, true, true, true, true, false, false, false, false, false] rfl rfl (any_of HT_.out (by kernel_rfl)) (fun _ _ _ h => h) (Or.inr ⟨by rfl, rfl⟩) ?_ ?_
      rotate_left
      ·simp only [Act.put, List.setIfInBounds_toArray, List.set_cons_zero, List.set_cons_succ, i64_w, i32_w]
       rfl
      refine pure_ (i := 15) (N := some 74) (v := undef) (a' := ?_) #[true, true, true, true, true, true, true, true, true, true, true, true, true, true, true, true, false, false, false, false] rfl rfl (any_of HT_.out (by kernel_rfl)) (fun _ _ _ h => h) (Or.inr ⟨by rfl, rfl⟩) ?_ ?_
      rotate_left
      ·simp only [Act.put, List.setIfInBounds_toArray, List.set_cons_zero, List.set_cons_succ, i64_w, i32_w]
       rfl
      refine pure_ (i := 16) (N := some 75) (v := undef) (a' := ?_) #[true, true, true, true, true, true, true, true, true, true, true, true, true, true, true, true, true, false, false, false] rfl rfl (any_of HT_.out (by kernel_rfl)) (fun _ _ _ h => h) (Or.inr ⟨by rfl, rfl⟩) ?_ ?_
      rotate_left
      ·simp only [Act.put, List.setIfInBounds_toArray, List.set_cons_zero, List.set_cons_succ, i64_w, i32_w]
       rfl
      refine pure_ (i := 17) (N := some 76) (v := undef) (a' := ?_) #[true, true, true, true, true, true, true, true, true, true, true, true, true, true, true, true, true, true, false, false] rfl rfl (any_of HT_.out (by kernel_rfl)) (fun _ _ _ h => h) (Or.inr ⟨by rfl, rfl⟩) ?_ ?_
      rotate_left
      ·simp only [Act.put, List.setIfInBounds_toArray, List.set_cons_zero, List.set_cons_succ, i64_w, i32_w]
       rfl
      refine pure_ (i := 18) (N := some 77) (v := ?_) (a' := ?_) #[true, true, true, true, true, true, true, true, true, true, true, true, true, true, true, true, true, true, true, false] rfl rfl (any_of HT_.out (by kernel_rfl)) (fun _ _ _ h => h) (Or.inl ⟨by rfl, ?_⟩) ?_ ?_
      rotate_left
      ·intro w'
       go_simp
       with_reducible rfl
      rotate_left
      ·simp only [Act.put, List.setIfInBounds_toArray, List.set_cons_zero, List.set_cons_succ, i64_w, i32_w]
       rfl
      refine pure_ (i := 19) (N := some 4) (v := ?_) (a' := ?_) #[true, true, true, true, true, true, true, true, true, true, true, true, true, true, true, true, true, true, true, true] rfl rfl (any_of HT_.out (by kernel_rfl)) (fun _ _ _ h => h) (Or.inl ⟨by rfl, ?_⟩) ?_ ?_
      rotate_left
      ·intro w'
       go_simp
       with_reducible rfl
      rotate_left
      ·simp only [Act.put, List.setIfInBounds_toArray, List.set_cons_zero, List.set_cons_succ, i64_w, i32_w]
       rfl
      refine done_ (done_of HT_.out (by kernel_rfl)) ?_
      try go_wp2
      go_ret
      exact ⟨er_, B2_ HB.out GE271.out GE272.out⟩
    ·rw [if_neg c51] at H
     have c51b0 : (a1_0 == 4) = false := beq_eq_false_iff_ne.mpr c51
     have c51b1 : (a1_0 != 4) = true := bne_iff_ne.mpr c51
     by_cases c78 : a0_0 = 5
     ·rw [if_pos c78] at H
      have c78b0 : (a0_0 == 5) = true := beq_iff_eq.mpr c78
      have c78b1 : (a0_0 != 5) = false := bne_eq_false_iff_eq.mpr c78
      clear c78
      have H' := Aside0.mk H
      clear H
      go_enter Try.func69, Try.ntmps69
      go_wp2_with (first | ((with_reducible refine gate_dst (N := 2) rfl ?_); refine box_event ?hg (N := 2) ?hd (cs := #[.int .i64 a0_0, .int .i64 a0_1, .string a0_2, .slice A0_3 l0_3.length c0_3, .slice A0_4 l0_4.length c0_4]) (t := 30) ?hr ?_; (case hd => rfl); (case hg => rfl); (case hr => first | (go_simp; done) | (go_simp; rfl)); intro gb271 hg w79 hbox hb; have BK271 := Aside0.mk (hbox); have GW271 := Aside0.mk ((by rw [hg]; exact (below_size (B0_ HB.out)) : w.heap.size ≤ gb271)); have GE271 := Aside0.mk ((by rw [hg]; exact (below_size (B0_ HB.out)) : w.heap.size ≤ gb271)); replace HB := Aside0.mk (below_step (B0_ HB.out) hb); clear hb hbox hg) | ((with_reducible refine gate_dst (N := 3) rfl ?_); refine box_event ?hg (N := 3) ?hd (cs := #[.int .i64 a1_0, .slice A1_1 l1_1.length c1_1, .slice A1_2 l1_2.length c1_2]) (t := 44) ?hr ?_; (case hd => rfl); (case hg => rfl); (case hr => first | (go_simp; done) | (go_simp; rfl)); intro gb272 hg w80 hbox hb; have BK272 := Aside0.mk (hbox); have GW272 := Aside0.mk ((by rw [hg]; exact (below_size (B1_ HB.out GE271.out)) : w.heap.size ≤ gb272)); have GE272 := Aside0.mk ((by rw [hg]; exact (below_size (B1_ HB.out GE271.out)) : w.heap.size ≤ gb272)); replace HB := Aside0.mk (below_step (B1_ HB.out GE271.out) hb); have NB271_272 := Aside0.mk ((by rw [hg]; exact Nat.ne_of_lt (blk_lt (K_ BK271.out)) : gb271 ≠ gb272)); have NB272_271 := Aside0.mk ((by rw [hg]; exact Nat.ne_of_gt (blk_lt (K_ BK271.out)) : gb272 ≠ gb271)); replace BK271 := Aside0.mk (blk_below (K_ BK271.out) hb); clear hb hbox hg; have hnb81 := NB272_271.out; have hnc81 := NB271_272.out; obtain ⟨hcz82_0, hcz82_1, hcz82_2, hfz82_0, hfz82_1, hfz82_2⟩ := box3_ BK272.out; obtain ⟨hcz83_0, hcz83_1, hcz83_2, hcz83_3, hcz83_4, hfz83_0, hfz83_1, hfz83_2, hfz83_3, hfz83_4⟩ := box5_ BK271.out))
      go_loopg [84] k (fun kq v84 w' => ∃ (x84_1 : Int), v84 = .int .i64 x84_1 ∧ Aside0 (impl_ofType.l1 kq l0_4 (l0_4.length : Int) x84_1 a1_0 l1_1 l1_2 = some r) ∧ Aside0 (kq ≤ k) ∧ Aside0 (w'.heap[gb271]? = some (.cells #[.int .i64 a0_0, .int .i64 a0_1, .string a0_2, (.slice A0_3 l0_3.length c0_3), (.slice A0_4 l0_4.length c0_4)] 30 (0, 0))) ∧ Aside0 (w'.heap[gb272]? = some (.cells #[.int .i64 a1_0, (.slice A1_1 l1_1.length c1_1), (.slice A1_2 l1_2.length c1_2)] 44 (0, 0))) ∧ Aside0 (Below w.heap.size w w'))
      case atStart => exact ⟨(0), q_, H', ⟨Nat.le_refl _⟩, ⟨K_ BK271.out⟩, ⟨K_ BK272.out⟩, ⟨B2_ HB.out GE271.out GE272.out⟩⟩
      case round =>
       clear H'
       try clear c51
       try clear c51b0
       try clear c51b1
       try clear c78
       try clear c78b0
       try clear c78b1
       try clear hcz82_0
       try clear hcz82_1
       try clear hcz82_2
       try clear hcz83_0
       try clear hcz83_1
       try clear hcz83_2
       try clear hcz83_3
       try clear hcz83_4
       try clear hfz82_0
       try clear hfz82_1
       try clear hfz82_2
       try clear hfz83_0
       try clear hfz83_1
       try clear hfz83_2
       try clear hfz83_3
       try clear hfz83_4
       obtain ⟨x84_1, rfl, HA, HK1, BK271, BK272, HB⟩ := hrel
       cases gk with
       | zero => exact absurd HA.out (by simp [impl_ofType.l1])
       | succ k1 =>
        have H := HA.out
        clear HA
        simp only [impl_ofType.l1] at H
        by_cases c84 : x84_1 < (l0_4.length : Int)
        ·rw [if_pos c84] at H
         have c84b0 : decide (x84_1 < (l0_4.length : Int)) = true := decide_eq_true c84
         clear c84
         by_cases c85 : 0 ≤ x84_1
         ·rw [if_pos c85] at H
          have c85b0 : decide (0 ≤ x84_1) = true := decide_eq_true c85
          clear c85
          by_cases c86 : x84_1 < (l0_4.length : Int)
          ·rw [if_pos c86] at H
           have c86b0 : decide (x84_1 < (l0_4.length : Int)) = true := decide_eq_true c86
           clear c86
           by_cases c87 : 0 < (l1_2.length : Int)
           ·rw [if_pos c87] at H
            have c87b0 : decide (0 < (l1_2.length : Int)) = true := decide_eq_true c87
            have c87b1 : decide (0 < l1_2.length) = true := decide_eq_true (by omega)
            clear c87
            replace H := Option.bind_eq_some_iff.mp H
            obtain ⟨t285, A880, H⟩ := H
            replace H : (if t285 = true then (impl_ofType.l1 k1 l0_4 (l0_4.length : Int) (wrap64 (x84_1 + 1)) a1_0 l1_1 l1_2) else (some false)) = some r := H
            have A88 := Aside0.mk A880
            clear A880
            by_cases c89 : t285 = true
            ·subst c89
             have H1 : (impl_ofType.l1 k1 l0_4 (l0_4.length : Int) (wrap64 (x84_1 + 1)) a1_0 l1_1 l1_2) = some r := by rw [if_pos rfl] at H; exact H
             clear H
             have H := H1
             clear H1
             have H' := Aside0.mk H
             clear H
             have p282 : 0 ≤ (x84_1 : Int) := de_
             have q282 : x84_1 < (l0_4.length : Int) := de_
             obtain ⟨ad282, A282_3, c282_3, A282_4, c282_4, e282, hx282_0, hx282_1, hx282_2, hx282_3, hx282_4, hl282_3, hi282_3, hl282_4, hi282_4⟩ := at_T30 HR0_4.out x84_1 p282 q282
             cases e282
             replace hx282_0 := (HB.out.cell (World.block_lt_of_cell? w _ hx282_0)).trans hx282_0
             replace hx282_1 := (HB.out.cell (World.block_lt_of_cell? w _ hx282_1)).trans hx282_1
             replace hx282_2 := (HB.out.cell (World.block_lt_of_cell? w _ hx282_2)).trans hx282_2
             replace hx282_3 := (HB.out.cell (World.block_lt_of_cell? w _ hx282_3)).trans hx282_3
             replace hx282_4 := (HB.out.cell (World.block_lt_of_cell? w _ hx282_4)).trans hx282_4
             have HR282_3 := Aside0.mk hi282_3
             have HC282_3 := Aside0.mk hl282_3
             clear hi282_3 hl282_3
             have HR282_4 := Aside0.mk hi282_4
             have HC282_4 := Aside0.mk hl282_4
             clear hi282_4 hl282_4
             replace p282 := eq_true p282
             replace q282 := eq_true q282
             try go_wp2_with (first | ((with_reducible refine gate_dst (N := 9) rfl ?_); refine box_event ?hg (N := 9) ?hd (cs := #[.int .i64 0, .int .i64 0, .string (⟨#[]⟩ : ByteArray), .slice none 0 0, .slice none 0 0]) (t := 30) ?hr ?_; (case hd => rfl); (case hg => rfl); (case hr => first | (go_simp; done) | (go_simp; rfl)); intro gb283 hg w90 hbox hb; have BK283 := Aside0.mk (hbox); have GW283 := Aside0.mk ((by rw [hg]; exact (below_size (B2_ HB.out GE271.out GE272.out)) : w.heap.size ≤ gb283)); have GE283 := Aside0.mk ((by rw [hg]; exact (below_size (B2_ HB.out GE271.out GE272.out)) : w.heap.size ≤ gb283)); replace HB := Aside0.mk (below_step (B2_ HB.out GE271.out GE272.out) hb); have NB271_283 := Aside0.mk ((by rw [hg]; exact Nat.ne_of_lt (blk_lt (K_ BK271.out)) : gb271 ≠ gb283)); have NB283_271 := Aside0.mk ((by rw [hg]; exact Nat.ne_of_gt (blk_lt (K_ BK271.out)) : gb283 ≠ gb271)); replace BK271 := Aside0.mk (blk_below (K_ BK271.out) hb); have NB272_283 := Aside0.mk ((by rw [hg]; exact Nat.ne_of_lt (blk_lt (K_ BK272.out)) : gb272 ≠ gb283)); have NB283_272 := Aside0.mk ((by rw [hg]; exact Nat.ne_of_gt (blk_lt (K_ BK272.out)) : gb283 ≠ gb272)); replace BK272 := Aside0.mk (blk_below (K_ BK272.out) hb); clear hb hbox hg; have hnb91 := NB283_271.out; have hnc91 := NB271_283.out; have hnb92 := NB283_272.out; have hnc92 := NB272_283.out; obtain ⟨hcz93_0, hcz93_1, hcz93_2, hcz93_3, hcz93_4, hfz93_0, hfz93_1, hfz93_2, hfz93_3, hfz93_4⟩ := box5_ BK283.out))
             have n0_ : Aside0 ((((((w90.setCell ⟨gb283, 0, none⟩ (.int .i64 ((rd_T30 l0_4 x84_1).f0))).setCell ⟨gb283, 1, none⟩ (.int .i64 ((rd_T30 l0_4 x84_1).f1))).setCell ⟨gb283, 2, none⟩ (.string ((rd_T30 l0_4 x84_1).f2))).setCell ⟨gb283, 3, none⟩ (.slice A282_3 ((rd_T30 l0_4 x84_1).f3).length c282_3)).setCell ⟨gb283, 4, none⟩ (.slice A282_4 ((rd_T30 l0_4 x84_1).f4).length c282_4)).heap[gb271]? = some (.cells #[.int .i64 a0_0, .int .i64 a0_1, .string a0_2, .slice A0_3 l0_3.length c0_3, .slice (some ad282) l0_4.length c0_4] 30 (0, 0))) := ⟨by (with_reducible repeat (first | refine blk_drewN ?_ _ | refine blk_drew ?_ | refine blk_alloc ?_ _)); refine blk_far ?_ NB271_283.out _; (with_reducible repeat (first | refine blk_drewN ?_ _ | refine blk_drew ?_ | refine blk_alloc ?_ _)); refine blk_far ?_ NB271_283.out _; (with_reducible repeat (first | refine blk_drewN ?_ _ | refine blk_drew ?_ | refine blk_alloc ?_ _)); refine blk_far ?_ NB271_283.out _; (with_reducible repeat (first | refine blk_drewN ?_ _ | refine blk_drew ?_ | refine blk_alloc ?_ _)); refine blk_far ?_ NB271_283.out _; (with_reducible repeat (first | refine blk_drewN ?_ _ | refine blk_drew ?_ | refine blk_alloc ?_ _)); refine blk_far ?_ NB271_283.out _; (with_reducible repeat (first | refine blk_drewN ?_ _ | refine blk_drew ?_ | refine blk_alloc ?_ _)); exact BK271.out⟩
             have n1_ : Aside0 ((((((w90.setCell ⟨gb283, 0, none⟩ (.int .i64 ((rd_T30 l0_4 x84_1).f0))).setCell ⟨gb283, 1, none⟩ (.int .i64 ((rd_T30 l0_4 x84_1).f1))).setCell ⟨gb283, 2, none⟩ (.string ((rd_T30 l0_4 x84_1).f2))).setCell ⟨gb283, 3, none⟩ (.slice A282_3 ((rd_T30 l0_4 x84_1).f3).length c282_3)).setCell ⟨gb283, 4, none⟩ (.slice A282_4 ((rd_T30 l0_4 x84_1).f4).length c282_4)).heap[gb272]? = some (.cells #[.int .i64 a1_0, .slice A1_1 l1_1.length c1_1, .slice A1_2 l1_2.length c1_2] 44 (0, 0))) := ⟨by (with_reducible repeat (first | refine blk_drewN ?_ _ | refine blk_drew ?_ | refine blk_alloc ?_ _)); refine blk_far ?_ NB272_283.out _; (with_reducible repeat (first | refine blk_drewN ?_ _ | refine blk_drew ?_ | refine blk_alloc ?_ _)); refine blk_far ?_ NB272_283.out _; (with_reducible repeat (first | refine blk_drewN ?_ _ | refine blk_drew ?_ | refine blk_alloc ?_ _)); refine blk_far ?_ NB272_283.out _; (with_reducible repeat (first | refine blk_drewN ?_ _ | refine blk_drew ?_ | refine blk_alloc ?_ _)); refine blk_far ?_ NB272_283.out _; (with_reducible repeat (first | refine blk_drewN ?_ _ | refine blk_drew ?_ | refine blk_alloc ?_ _)); refine blk_far ?_ NB272_283.out _; (with_reducible repeat (first | refine blk_drewN ?_ _ | refine blk_drew ?_ | refine blk_alloc ?_ _)); exact BK272.out⟩
             have n2_ : Aside0 ((((((w90.setCell ⟨gb283, 0, none⟩ (.int .i64 ((rd_T30 l0_4 x84_1).f0))).setCell ⟨gb283, 1, none⟩ (.int .i64 ((rd_T30 l0_4 x84_1).f1))).setCell ⟨gb283, 2, none⟩ (.string ((rd_T30 l0_4 x84_1).f2))).setCell ⟨gb283, 3, none⟩ (.slice A282_3 ((rd_T30 l0_4 x84_1).f3).length c282_3)).setCell ⟨gb283, 4, none⟩ (.slice A282_4 ((rd_T30 l0_4 x84_1).f4).length c282_4)).heap[gb283]? = some (.cells #[.int .i64 ((rd_T30 l0_4 x84_1).f0), .int .i64 ((rd_T30 l0_4 x84_1).f1), .string ((rd_T30 l0_4 x84_1).f2), .slice A282_3 ((rd_T30 l0_4 x84_1).f3).length c282_3, .slice A282_4 ((rd_T30 l0_4 x84_1).f4).length c282_4] 30 (0, 0))) := ⟨by (with_reducible repeat (first | refine blk_drewN ?_ _ | refine blk_drew ?_ | refine blk_alloc ?_ _)); refine blk_put (cs := #[.int .i64 ((rd_T30 l0_4 x84_1).f0), .int .i64 ((rd_T30 l0_4 x84_1).f1), .string ((rd_T30 l0_4 x84_1).f2), .slice A282_3 ((rd_T30 l0_4 x84_1).f3).length c282_3, .slice none 0 0]) ?_ 4 _ rfl; (with_reducible repeat (first | refine blk_drewN ?_ _ | refine blk_drew ?_ | refine blk_alloc ?_ _)); refine blk_put (cs := #[.int .i64 ((rd_T30 l0_4 x84_1).f0), .int .i64 ((rd_T30 l0_4 x84_1).f1), .string ((rd_T30 l0_4 x84_1).f2), .slice none 0 0, .slice none 0 0]) ?_ 3 _ rfl; (with_reducible repeat (first | refine blk_drewN ?_ _ | refine blk_drew ?_ | refine blk_alloc ?_ _)); refine blk_put (cs := #[.int .i64 ((rd_T30 l0_4 x84_1).f0), .int .i64 ((rd_T30 l0_4 x84_1).f1), .string (⟨#[]⟩ : ByteArray), .slice none 0 0, .slice none 0 0]) ?_ 2 _ rfl; (with_reducible repeat (first | refine blk_drewN ?_ _ | refine blk_drew ?_ | refine blk_alloc ?_ _)); refine blk_put (cs := #[.int .i64 ((rd_T30 l0_4 x84_1).f0), .int .i64 0, .string (⟨#[]⟩ : ByteArray), .slice none 0 0, .slice none 0 0]) ?_ 1 _ rfl; (with_reducible repeat (first | refine blk_drewN ?_ _ | refine blk_drew ?_ | refine blk_alloc ?_ _)); refine blk_put (cs := #[.int .i64 0, .int .i64 0, .string (⟨#[]⟩ : ByteArray), .slice none 0 0, .slice none 0 0]) ?_ 0 _ rfl; (with_reducible repeat (first | refine blk_drewN ?_ _ | refine blk_drew ?_ | refine blk_alloc ?_ _)); exact BK283.out⟩
             have n3_ : Aside0 (Below w.heap.size w (((((w90.setCell ⟨gb283, 0, none⟩ (.int .i64 ((rd_T30 l0_4 x84_1).f0))).setCell ⟨gb283, 1, none⟩ (.int .i64 ((rd_T30 l0_4 x84_1).f1))).setCell ⟨gb283, 2, none⟩ (.string ((rd_T30 l0_4 x84_1).f2))).setCell ⟨gb283, 3, none⟩ (.slice A282_3 ((rd_T30 l0_4 x84_1).f3).length c282_3)).setCell ⟨gb283, 4, none⟩ (.slice A282_4 ((rd_T30 l0_4 x84_1).f4).length c282_4))) := ⟨B3_ HB.out GE271.out GE272.out GE283.out⟩
             (try clear BK271)
             (try clear BK272)
             (try clear BK283)
             (try clear HB)
             generalize (((((w90.setCell ⟨gb283, 0, none⟩ (.int .i64 ((rd_T30 l0_4 x84_1).f0))).setCell ⟨gb283, 1, none⟩ (.int .i64 ((rd_T30 l0_4 x84_1).f1))).setCell ⟨gb283, 2, none⟩ (.string ((rd_T30 l0_4 x84_1).f2))).setCell ⟨gb283, 3, none⟩ (.slice A282_3 ((rd_T30 l0_4 x84_1).f3).length c282_3)).setCell ⟨gb283, 4, none⟩ (.slice A282_4 ((rd_T30 l0_4 x84_1).f4).length c282_4)) = w94 at n0_ n1_ n2_ n3_ ⊢
             have BK271 := n0_
             have BK272 := n1_
             have BK283 := n2_
             have HB := n3_
             clear n0_ n1_ n2_ n3_
             replace BK271 := Aside0.mk (blk_drew BK271.out)
             replace BK272 := Aside0.mk (blk_drew BK272.out)
             replace BK283 := Aside0.mk (blk_drew BK283.out)
             replace HB := Aside0.mk (below_drew1 HB.out)
             have p284 : 0 ≤ (0 : Int) := (by omega)
             have q284 : 0 < (l1_2.length : Int) := de_
             obtain ⟨ad284, A284_1, c284_1, A284_2, c284_2, e284, hx284_0, hx284_1, hx284_2, hl284_1, hi284_1, hl284_2, hi284_2⟩ := at_T44 HR1_2.out 0 p284 q284
             have hw284_2 := hx284_2
             (try rw [show ((0 : Int)).toNat = 0 from rfl] at hw284_2)
             (try rw [show 0 * 3 = 0 from rfl] at hw284_2)
             (try rw [Addr.add_zero'] at hw284_2)
             have hw284_1 := hx284_1
             (try rw [show ((0 : Int)).toNat = 0 from rfl] at hw284_1)
             (try rw [show 0 * 3 = 0 from rfl] at hw284_1)
             (try rw [Addr.add_zero'] at hw284_1)
             have hw284_0 := hx284_0
             (try rw [show ((0 : Int)).toNat = 0 from rfl] at hw284_0)
             (try rw [show 0 * 3 = 0 from rfl] at hw284_0)
             (try rw [Addr.add_zero'] at hw284_0)
             cases e284
             have qi284 : (0 < l1_2.length) = True := eq_true (by omega)
             (try rw [show ((0 : Int)).toNat = 0 from rfl] at hx284_0)
             (try rw [show 0 * 3 = 0 from rfl] at hx284_0)
             (try rw [Addr.add_zero'] at hx284_0)
             (try rw [show ((0 : Int)).toNat = 0 from rfl] at hx284_1)
             (try rw [show 0 * 3 = 0 from rfl] at hx284_1)
             (try rw [Addr.add_zero'] at hx284_1)
             (try rw [show ((0 : Int)).toNat = 0 from rfl] at hx284_2)
             (try rw [show 0 * 3 = 0 from rfl] at hx284_2)
             (try rw [Addr.add_zero'] at hx284_2)
             replace hx284_0 := (HB.out.cell (World.block_lt_of_cell? w _ hx284_0)).trans hx284_0
             replace hx284_1 := (HB.out.cell (World.block_lt_of_cell? w _ hx284_1)).trans hx284_1
             replace hx284_2 := (HB.out.cell (World.block_lt_of_cell? w _ hx284_2)).trans hx284_2
             have HR284_1 := Aside0.mk hi284_1
             have HC284_1 := Aside0.mk hl284_1
             clear hi284_1 hl284_1
             have HR284_2 := Aside0.mk hi284_2
             have HC284_2 := Aside0.mk hl284_2
             clear hi284_2 hl284_2
             replace p284 := eq_true p284
             replace q284 := eq_true q284
             refine start_ (n := 7) (S := fun w' => w'.cell? ⟨gb283, 0, none⟩ = some (.int .i64 ((rd_T30 l0_4 x84_1).f0)) ∧ w'.cell? ⟨gb283, 1, none⟩ = some (.int .i64 ((rd_T30 l0_4 x84_1).f1)) ∧ w'.cell? ⟨gb283, 2, none⟩ = some (.string ((rd_T30 l0_4 x84_1).f2)) ∧ w'.cell? ⟨gb283, 3, none⟩ = some (.slice A282_3 ((rd_T30 l0_4 x84_1).f3).length c282_3) ∧ w'.cell? ⟨gb283, 4, none⟩ = some (.slice A282_4 ((rd_T30 l0_4 x84_1).f4).length c282_4) ∧ w'.cell? ⟨gb272, 0, none⟩ = some (.int .i64 a1_0) ∧ w'.cell? ⟨gb272, 1, none⟩ = some (.slice A1_1 l1_1.length c1_1) ∧ w'.cell? ⟨gb272, 2, none⟩ = some (.slice (some ad284) l1_2.length c1_2) ∧ w'.cell? ad284 = some (.int .i64 ((rd_T44 l1_2 0).f0)) ∧ w'.cell? ⟨ad284.block, ad284.off + 1, none⟩ = some (.slice A284_1 ((rd_T44 l1_2 0).f1).length c284_1) ∧ w'.cell? ⟨ad284.block, ad284.off + 2, none⟩ = some (.slice A284_2 ((rd_T44 l1_2 0).f2).length c284_2)) (ds := []) #[false, false, false, false, false, false, false] (by kernel_rfl) rfl rfl ⟨(blk_cell BK283.out 0).trans rfl, (blk_cell BK283.out 1).trans rfl, (blk_cell BK283.out 2).trans rfl, (blk_cell BK283.out 3).trans rfl, (blk_cell BK283.out 4).trans rfl, (blk_cell BK272.out 0).trans rfl, (blk_cell BK272.out 1).trans rfl, (blk_cell BK272.out 2).trans rfl, ((HB.out.cell (World.block_lt_of_cell? w _ hw284_0)).trans hw284_0), ((HB.out.cell (World.block_lt_of_cell? w _ hw284_1)).trans hw284_1), ((HB.out.cell (World.block_lt_of_cell? w _ hw284_2)).trans hw284_2)⟩ (fun hHeld => ?_)
             generalize w94.drew = w95 at BK271 BK272 BK283 HB HR284_1 HR284_2 hx284_0 hx284_1 hx284_2 hHeld ⊢
             refine pure_ (i := 1) (N := some 89) (v := ?_) (a' := ?_) #[false, true, false, false, false, false, false] rfl rfl (by kernel_rfl) (fun _ _ _ h => h) (Or.inl ⟨by rfl, ?_⟩) ?_ ?_
             rotate_left
             ·intro w'
              go_simp
              with_reducible rfl
             rotate_left
             ·simp only [Act.put, List.setIfInBounds_toArray, List.set_cons_zero, List.set_cons_succ, i64_w, i32_w]
              rfl
             refine take_ (i := 0) (N := some 88) (v := ?_) (a' := ?_) #[true, true, false, false, false, false, false] rfl rfl (by kernel_rfl) (fun _ _ _ h => h) (Or.inl ⟨by rfl, ?_⟩) hHeld ?_ ?_
             rotate_left
             ·rintro w' ⟨s0, s1, s2, s3, s4, s5, s6, s7, s8, s9, s10⟩
              go_simp
              with_reducible rfl
             rotate_left
             ·simp only [Act.put, List.setIfInBounds_toArray, List.set_cons_zero, List.set_cons_succ, i64_w, i32_w]
              rfl
             refine take_ (i := 2) (N := some 90) (v := ?_) (a' := ?_) #[true, true, true, false, false, false, false] rfl rfl (by kernel_rfl) (fun _ _ _ h => h) (Or.inl ⟨by rfl, ?_⟩) hHeld ?_ ?_
             rotate_left
             ·rintro w' ⟨s0, s1, s2, s3, s4, s5, s6, s7, s8, s9, s10⟩
              go_simp
              with_reducible rfl
             rotate_left
             ·simp only [Act.put, List.setIfInBounds_toArray, List.set_cons_zero, List.set_cons_succ, i64_w, i32_w]
              rfl
             refine pure_ (i := 3) (N := some 91) (v := ?_) (a' := ?_) #[true, true, true, true, false, false, false] rfl rfl (by kernel_rfl) (fun _ _ _ h => h) (Or.inl ⟨by rfl, ?_⟩) ?_ ?_
             rotate_left
             ·intro w'
              go_simp
              with_reducible rfl
             rotate_left
             ·simp only [Act.put, List.setIfInBounds_toArray, List.set_cons_zero, List.set_cons_succ, i64_w, i32_w]
              rfl
             refine take_ (i := 4) (N := some 92) (v := ?_) (a' := ?_) #[true, true, true, true, true, false, false] rfl rfl (by kernel_rfl) (fun _ _ _ h => h) (Or.inl ⟨by rfl, ?_⟩) hHeld ?_ ?_
             rotate_left
             ·rintro w' ⟨s0, s1, s2, s3, s4, s5, s6, s7, s8, s9, s10⟩
              go_simp
              with_reducible rfl
             rotate_left
             ·simp only [Act.put, List.setIfInBounds_toArray, List.set_cons_zero, List.set_cons_succ, i64_w, i32_w]
              rfl
             refine one_ (i := 5) (N := some 93) #[true, true, true, true, true, true, false] rfl rfl (by kernel_rfl) (by decide) (fun K hK => ?_)
             refine goes_ Try.func69 (by kernel_rfl) rfl #[.agg #[.int .i64 ((rd_T30 l0_4 x84_1).f0), .int .i64 ((rd_T30 l0_4 x84_1).f1), .string ((rd_T30 l0_4 x84_1).f2), .slice A282_3 ((rd_T30 l0_4 x84_1).f3).length c282_3, .slice A282_4 ((rd_T30 l0_4 x84_1).f4).length c282_4], .agg #[.int .i64 ((rd_T44 l1_2 0).f0), .slice A284_1 ((rd_T44 l1_2 0).f1).length c284_1, .slice A284_2 ((rd_T44 l1_2 0).f2).length c284_2]] (by rfl) rfl rfl ma_ ?_
             with_reducible refine (ih k1 (by have := HK1.out; omega) ((rd_T30 l0_4 x84_1).f0) ((rd_T30 l0_4 x84_1).f1) ((rd_T30 l0_4 x84_1).f2) _ _ ((rd_T30 l0_4 x84_1).f3) _ _ ((rd_T30 l0_4 x84_1).f4) ((rd_T44 l1_2 0).f0) _ _ ((rd_T44 l1_2 0).f1) _ _ ((rd_T44 l1_2 0).f2) true _ ?side1 ?side2 ?side3 ?side4 ?side5 ?side6 ?side7 ?side8 A88.out).mono ?_
             (case side1 => exact C_ (Kd.C_below HR282_3.out HB.out))
             (case side2 => exact HC282_3.out)
             (case side3 => exact C_ (Kd.C_below HR282_4.out HB.out))
             (case side4 => exact HC282_4.out)
             (case side5 => exact C_ (Kd.C_below HR284_1.out HB.out))
             (case side6 => exact HC284_1.out)
             (case side7 => exact C_ (Kd.C_below HR284_2.out HB.out))
             (case side8 => exact HC284_2.out)
             rintro e w96 ⟨rfl, hb⟩
             refine ⟨_, rfl, ?_⟩
             replace BK271 := Aside0.mk (blk_below (K_ BK271.out) hb)
             replace BK272 := Aside0.mk (blk_below (K_ BK272.out) hb)
             replace BK283 := Aside0.mk (blk_below (K_ BK283.out) hb)
             replace HB := Aside0.mk (below_step (B3_ HB.out GE271.out GE272.out GE283.out) hb)
             (try clear hb)
             (try clear hb2)
             (try clear hk)
             (try clear hi)
             refine hK.out _ _ ⟨(blk_cell BK283.out 0).trans rfl, (blk_cell BK283.out 1).trans rfl, (blk_cell BK283.out 2).trans rfl, (blk_cell BK283.out 3).trans rfl, (blk_cell BK283.out 4).trans rfl, (blk_cell BK272.out 0).trans rfl, (blk_cell BK272.out 1).trans rfl, (blk_cell BK272.out 2).trans rfl, ((HB.out.cell (World.block_lt_of_cell? w _ hw284_0)).trans hw284_0), ((HB.out.cell (World.block_lt_of_cell? w _ hw284_1)).trans hw284_1), ((HB.out.cell (World.block_lt_of_cell? w _ hw284_2)).trans hw284_2)⟩ (fun hHeld => ?_)
             clear hK K
             refine norm_ (a' := ?_) ?_ ?_
             rotate_left
             ·show Act.put _ (some 93) _ = _
              simp only [Act.put, List.setIfInBounds_toArray, List.set_cons_zero, List.set_cons_succ, i64_w, i32_w]
              rfl
             refine pure_ (i := 6) (N := some 94) (v := ?_) (a' := ?_) #[true, true, true, true, true, true, true] rfl rfl (by kernel_rfl) (fun _ _ _ h => h) (Or.inl ⟨by rfl, ?_⟩) ?_ ?_
             rotate_left
             ·intro w'
              go_simp
              with_reducible rfl
             rotate_left
             ·simp only [Act.put, List.setIfInBounds_toArray, List.set_cons_zero, List.set_cons_succ, i64_w, i32_w]
              rfl
             refine done_ (by kernel_rfl) ?_
             try go_wp2
             go_roundg k1
             case measure => have := HK1.out; omega
             case rel => exact ⟨(wrap64 (x84_1 + 1)), q_, H', ⟨by have := HK1.out; omega⟩, ⟨K_ BK271.out⟩, ⟨K_ BK272.out⟩, ⟨B3_ HB.out GE271.out GE272.out GE283.out⟩⟩
            ·replace c89 := Bool.eq_false_iff.mpr c89
             subst c89
             have H1 : (some false) = some r := by rw [if_neg (show ¬ (false = true) by decide)] at H; exact H
             clear H
             have H := H1
             clear H1
             obtain rfl := Option.some.inj H
             have p282 : 0 ≤ (x84_1 : Int) := de_
             have q282 : x84_1 < (l0_4.length : Int) := de_
             obtain ⟨ad282, A282_3, c282_3, A282_4, c282_4, e282, hx282_0, hx282_1, hx282_2, hx282_3, hx282_4, hl282_3, hi282_3, hl282_4, hi282_4⟩ := at_T30 HR0_4.out x84_1 p282 q282
             cases e282
             replace hx282_0 := (HB.out.cell (World.block_lt_of_cell? w _ hx282_0)).trans hx282_0
             replace hx282_1 := (HB.out.cell (World.block_lt_of_cell? w _ hx282_1)).trans hx282_1
             replace hx282_2 := (HB.out.cell (World.block_lt_of_cell? w _ hx282_2)).trans hx282_2
             replace hx282_3 := (HB.out.cell (World.block_lt_of_cell? w _ hx282_3)).trans hx282_3
             replace hx282_4 := (HB.out.cell (World.block_lt_of_cell? w _ hx282_4)).trans hx282_4
             have HR282_3 := Aside0.mk hi282_3
             have HC282_3 := Aside0.mk hl282_3
             clear hi282_3 hl282_3
             have HR282_4 := Aside0.mk hi282_4
             have HC282_4 := Aside0.mk hl282_4
             clear hi282_4 hl282_4
             replace p282 := eq_true p282
             replace q282 := eq_true q282
             try go_wp2_with (first | ((with_reducible refine gate_dst (N := 9) rfl ?_); refine box_event ?hg (N := 9) ?hd (cs := #[.int .i64 0, .int .i64 0, .string (⟨#[]⟩ : ByteArray), .slice none 0 0, .slice none 0 0]) (t := 30) ?hr ?_; (case hd => rfl); (case hg => rfl); (case hr => first | (go_simp; done) | (go_simp; rfl)); intro gb283 hg w97 hbox hb; have BK283 := Aside0.mk (hbox); have GW283 := Aside0.mk ((by rw [hg]; exact (below_size (B2_ HB.out GE271.out GE272.out)) : w.heap.size ≤ gb283)); have GE283 := Aside0.mk ((by rw [hg]; exact (below_size (B2_ HB.out GE271.out GE272.out)) : w.heap.size ≤ gb283)); replace HB := Aside0.mk (below_step (B2_ HB.out GE271.out GE272.out) hb); have NB271_283 := Aside0.mk ((by rw [hg]; exact Nat.ne_of_lt (blk_lt (K_ BK271.out)) : gb271 ≠ gb283)); have NB283_271 := Aside0.mk ((by rw [hg]; exact Nat.ne_of_gt (blk_lt (K_ BK271.out)) : gb283 ≠ gb271)); replace BK271 := Aside0.mk (blk_below (K_ BK271.out) hb); have NB272_283 := Aside0.mk ((by rw [hg]; exact Nat.ne_of_lt (blk_lt (K_ BK272.out)) : gb272 ≠ gb283)); have NB283_272 := Aside0.mk ((by rw [hg]; exact Nat.ne_of_gt (blk_lt (K_ BK272.out)) : gb283 ≠ gb272)); replace BK272 := Aside0.mk (blk_below (K_ BK272.out) hb); clear hb hbox hg; have hnb98 := NB283_271.out; have hnc98 := NB271_283.out; have hnb99 := NB283_272.out; have hnc99 := NB272_283.out; obtain ⟨hcz100_0, hcz100_1, hcz100_2, hcz100_3, hcz100_4, hfz100_0, hfz100_1, hfz100_2, hfz100_3, hfz100_4⟩ := box5_ BK283.out))
             have n0_ : Aside0 ((((((w97.setCell ⟨gb283, 0, none⟩ (.int .i64 ((rd_T30 l0_4 x84_1).f0))).setCell ⟨gb283, 1, none⟩ (.int .i64 ((rd_T30 l0_4 x84_1).f1))).setCell ⟨gb283, 2, none⟩ (.string ((rd_T30 l0_4 x84_1).f2))).setCell ⟨gb283, 3, none⟩ (.slice A282_3 ((rd_T30 l0_4 x84_1).f3).length c282_3)).setCell ⟨gb283, 4, none⟩ (.slice A282_4 ((rd_T30 l0_4 x84_1).f4).length c282_4)).heap[gb271]? = some (.cells #[.int .i64 a0_0, .int .i64 a0_1, .string a0_2, .slice A0_3 l0_3.length c0_3, .slice (some ad282) l0_4.length c0_4] 30 (0, 0))) := ⟨by (with_reducible repeat (first | refine blk_drewN ?_ _ | refine blk_drew ?_ | refine blk_alloc ?_ _)); refine blk_far ?_ NB271_283.out _; (with_reducible repeat (first | refine blk_drewN ?_ _ | refine blk_drew ?_ | refine blk_alloc ?_ _)); refine blk_far ?_ NB271_283.out _; (with_reducible repeat (first | refine blk_drewN ?_ _ | refine blk_drew ?_ | refine blk_alloc ?_ _)); refine blk_far ?_ NB271_283.out _; (with_reducible repeat (first | refine blk_drewN ?_ _ | refine blk_drew ?_ | refine blk_alloc ?_ _)); refine blk_far ?_ NB271_283.out _; (with_reducible repeat (first | refine blk_drewN ?_ _ | refine blk_drew ?_ | refine blk_alloc ?_ _)); refine blk_far ?_ NB271_283.out _; (with_reducible repeat (first | refine blk_drewN ?_ _ | refine blk_drew ?_ | refine blk_alloc ?_ _)); exact BK271.out⟩
             have n1_ : Aside0 ((((((w97.setCell ⟨gb283, 0, none⟩ (.int .i64 ((rd_T30 l0_4 x84_1).f0))).setCell ⟨gb283, 1, none⟩ (.int .i64 ((rd_T30 l0_4 x84_1).f1))).setCell ⟨gb283, 2, none⟩ (.string ((rd_T30 l0_4 x84_1).f2))).setCell ⟨gb283, 3, none⟩ (.slice A282_3 ((rd_T30 l0_4 x84_1).f3).length c282_3)).setCell ⟨gb283, 4, none⟩ (.slice A282_4 ((rd_T30 l0_4 x84_1).f4).length c282_4)).heap[gb272]? = some (.cells #[.int .i64 a1_0, .slice A1_1 l1_1.length c1_1, .slice A1_2 l1_2.length c1_2] 44 (0, 0))) := ⟨by (with_reducible repeat (first | refine blk_drewN ?_ _ | refine blk_drew ?_ | refine blk_alloc ?_ _)); refine blk_far ?_ NB272_283.out _; (with_reducible repeat (first | refine blk_drewN ?_ _ | refine blk_drew ?_ | refine blk_alloc ?_ _)); refine blk_far ?_ NB272_283.out _; (with_reducible repeat (first | refine blk_drewN ?_ _ | refine blk_drew ?_ | refine blk_alloc ?_ _)); refine blk_far ?_ NB272_283.out _; (with_reducible repeat (first | refine blk_drewN ?_ _ | refine blk_drew ?_ | refine blk_alloc ?_ _)); refine blk_far ?_ NB272_283.out _; (with_reducible repeat (first | refine blk_drewN ?_ _ | refine blk_drew ?_ | refine blk_alloc ?_ _)); refine blk_far ?_ NB272_283.out _; (with_reducible repeat (first | refine blk_drewN ?_ _ | refine blk_drew ?_ | refine blk_alloc ?_ _)); exact BK272.out⟩
             have n2_ : Aside0 ((((((w97.setCell ⟨gb283, 0, none⟩ (.int .i64 ((rd_T30 l0_4 x84_1).f0))).setCell ⟨gb283, 1, none⟩ (.int .i64 ((rd_T30 l0_4 x84_1).f1))).setCell ⟨gb283, 2, none⟩ (.string ((rd_T30 l0_4 x84_1).f2))).setCell ⟨gb283, 3, none⟩ (.slice A282_3 ((rd_T30 l0_4 x84_1).f3).length c282_3)).setCell ⟨gb283, 4, none⟩ (.slice A282_4 ((rd_T30 l0_4 x84_1).f4).length c282_4)).heap[gb283]? = some (.cells #[.int .i64 ((rd_T30 l0_4 x84_1).f0), .int .i64 ((rd_T30 l0_4 x84_1).f1), .string ((rd_T30 l0_4 x84_1).f2), .slice A282_3 ((rd_T30 l0_4 x84_1).f3).length c282_3, .slice A282_4 ((rd_T30 l0_4 x84_1).f4).length c282_4] 30 (0, 0))) := ⟨by (with_reducible repeat (first | refine blk_drewN ?_ _ | refine blk_drew ?_ | refine blk_alloc ?_ _)); refine blk_put (cs := #[.int .i64 ((rd_T30 l0_4 x84_1).f0), .int .i64 ((rd_T30 l0_4 x84_1).f1), .string ((rd_T30 l0_4 x84_1).f2), .slice A282_3 ((rd_T30 l0_4 x84_1).f3).length c282_3, .slice none 0 0]) ?_ 4 _ rfl; (with_reducible repeat (first | refine blk_drewN ?_ _ | refine blk_drew ?_ | refine blk_alloc ?_ _)); refine blk_put (cs := #[.int .i64 ((rd_T30 l0_4 x84_1).f0), .int .i64 ((rd_T30 l0_4 x84_1).f1), .string ((rd_T30 l0_4 x84_1).f2), .slice none 0 0, .slice none 0 0]) ?_ 3 _ rfl; (with_reducible repeat (first | refine blk_drewN ?_ _ | refine blk_drew ?_ | refine blk_alloc ?_ _)); refine blk_put (cs := #[.int .i64 ((rd_T30 l0_4 x84_1).f0), .int .i64 ((rd_T30 l0_4 x84_1).f1), .string (⟨#[]⟩ : ByteArray), .slice none 0 0, .slice none 0 0]) ?_ 2 _ rfl; (with_reducible repeat (first | refine blk_drewN ?_ _ | refine blk_drew ?_ | refine blk_alloc ?_ _)); refine blk_put (cs := #[.int .i64 ((rd_T30 l0_4 x84_1).f0), .int .i64 0, .string (⟨#[]⟩ : ByteArray), .slice none 0 0, .slice none 0 0]) ?_ 1 _ rfl; (with_reducible repeat (first | refine blk_drewN ?_ _ | refine blk_drew ?_ | refine blk_alloc ?_ _)); refine blk_put (cs := #[.int .i64 0, .int .i64 0, .string (⟨#[]⟩ : ByteArray), .slice none 0 0, .slice none 0 0]) ?_ 0 _ rfl; (with_reducible repeat (first | refine blk_drewN ?_ _ | refine blk_drew ?_ | refine blk_alloc ?_ _)); exact BK283.out⟩
             have n3_ : Aside0 (Below w.heap.size w (((((w97.setCell ⟨gb283, 0, none⟩ (.int .i64 ((rd_T30 l0_4 x84_1).f0))).setCell ⟨gb283, 1, none⟩ (.int .i64 ((rd_T30 l0_4 x84_1).f1))).setCell ⟨gb283, 2, none⟩ (.string ((rd_T30 l0_4 x84_1).f2))).setCell ⟨gb283, 3, none⟩ (.slice A282_3 ((rd_T30 l0_4 x84_1).f3).length c282_3)).setCell ⟨gb283, 4, none⟩ (.slice A282_4 ((rd_T30 l0_4 x84_1).f4).length c282_4))) := ⟨B3_ HB.out GE271.out GE272.out GE283.out⟩
             (try clear BK271)
             (try clear BK272)
             (try clear BK283)
             (try clear HB)
             generalize (((((w97.setCell ⟨gb283, 0, none⟩ (.int .i64 ((rd_T30 l0_4 x84_1).f0))).setCell ⟨gb283, 1, none⟩ (.int .i64 ((rd_T30 l0_4 x84_1).f1))).setCell ⟨gb283, 2, none⟩ (.string ((rd_T30 l0_4 x84_1).f2))).setCell ⟨gb283, 3, none⟩ (.slice A282_3 ((rd_T30 l0_4 x84_1).f3).length c282_3)).setCell ⟨gb283, 4, none⟩ (.slice A282_4 ((rd_T30 l0_4 x84_1).f4).length c282_4)) = w101 at n0_ n1_ n2_ n3_ ⊢
             have BK271 := n0_
             have BK272 := n1_
             have BK283 := n2_
             have HB := n3_
             clear n0_ n1_ n2_ n3_
             replace BK271 := Aside0.mk (blk_drew BK271.out)
             replace BK272 := Aside0.mk (blk_drew BK272.out)
             replace BK283 := Aside0.mk (blk_drew BK283.out)
             replace HB := Aside0.mk (below_drew1 HB.out)
             have p284 : 0 ≤ (0 : Int) := (by omega)
             have q284 : 0 < (l1_2.length : Int) := de_
             obtain ⟨ad284, A284_1, c284_1, A284_2, c284_2, e284, hx284_0, hx284_1, hx284_2, hl284_1, hi284_1, hl284_2, hi284_2⟩ := at_T44 HR1_2.out 0 p284 q284
             have hw284_2 := hx284_2
             (try rw [show ((0 : Int)).toNat = 0 from rfl] at hw284_2)
             (try rw [show 0 * 3 = 0 from rfl] at hw284_2)
             (try rw [Addr.add_zero'] at hw284_2)
             have hw284_1 := hx284_1
             (try rw [show ((0 : Int)).toNat = 0 from rfl] at hw284_1)
             (try rw [show 0 * 3 = 0 from rfl] at hw284_1)
             (try rw [Addr.add_zero'] at hw284_1)
             have hw284_0 := hx284_0
             (try rw [show ((0 : Int)).toNat = 0 from rfl] at hw284_0)
             (try rw [show 0 * 3 = 0 from rfl] at hw284_0)
             (try rw [Addr.add_zero'] at hw284_0)
             cases e284
             have qi284 : (0 < l1_2.length) = True := eq_true (by omega)
             (try rw [show ((0 : Int)).toNat = 0 from rfl] at hx284_0)
             (try rw [show 0 * 3 = 0 from rfl] at hx284_0)
             (try rw [Addr.add_zero'] at hx284_0)
             (try rw [show ((0 : Int)).toNat = 0 from rfl] at hx284_1)
             (try rw [show 0 * 3 = 0 from rfl] at hx284_1)
             (try rw [Addr.add_zero'] at hx284_1)
             (try rw [show ((0 : Int)).toNat = 0 from rfl] at hx284_2)
             (try rw [show 0 * 3 = 0 from rfl] at hx284_2)
             (try rw [Addr.add_zero'] at hx284_2)
             replace hx284_0 := (HB.out.cell (World.block_lt_of_cell? w _ hx284_0)).trans hx284_0
             replace hx284_1 := (HB.out.cell (World.block_lt_of_cell? w _ hx284_1)).trans hx284_1
             replace hx284_2 := (HB.out.cell (World.block_lt_of_cell? w _ hx284_2)).trans hx284_2
             have HR284_1 := Aside0.mk hi284_1
             have HC284_1 := Aside0.mk hl284_1
             clear hi284_1 hl284_1
             have HR284_2 := Aside0.mk hi284_2
             have HC284_2 := Aside0.mk hl284_2
             clear hi284_2 hl284_2
             replace p284 := eq_true p284
             replace q284 := eq_true q284
             refine start_ (n := 7) (S := fun w' => w'.cell? ⟨gb283, 0, none⟩ = some (.int .i64 ((rd_T30 l0_4 x84_1).f0)) ∧ w'.cell? ⟨gb283, 1, none⟩ = some (.int .i64 ((rd_T30 l0_4 x84_1).f1)) ∧ w'.cell? ⟨gb283, 2, none⟩ = some (.string ((rd_T30 l0_4 x84_1).f2)) ∧ w'.cell? ⟨gb283, 3, none⟩ = some (.slice A282_3 ((rd_T30 l0_4 x84_1).f3).length c282_3) ∧ w'.cell? ⟨gb283, 4, none⟩ = some (.slice A282_4 ((rd_T30 l0_4 x84_1).f4).length c282_4) ∧ w'.cell? ⟨gb272, 0, none⟩ = some (.int .i64 a1_0) ∧ w'.cell? ⟨gb272, 1, none⟩ = some (.slice A1_1 l1_1.length c1_1) ∧ w'.cell? ⟨gb272, 2, none⟩ = some (.slice (some ad284) l1_2.length c1_2) ∧ w'.cell? ad284 = some (.int .i64 ((rd_T44 l1_2 0).f0)) ∧ w'.cell? ⟨ad284.block, ad284.off + 1, none⟩ = some (.slice A284_1 ((rd_T44 l1_2 0).f1).length c284_1) ∧ w'.cell? ⟨ad284.block, ad284.off + 2, none⟩ = some (.slice A284_2 ((rd_T44 l1_2 0).f2).length c284_2)) (ds := []) #[false, false, false, false, false, false, false] (by kernel_rfl) rfl rfl ⟨(blk_cell BK283.out 0).trans rfl, (blk_cell BK283.out 1).trans rfl, (blk_cell BK283.out 2).trans rfl, (blk_cell BK283.out 3).trans rfl, (blk_cell BK283.out 4).trans rfl, (blk_cell BK272.out 0).trans rfl, (blk_cell BK272.out 1).trans rfl, (blk_cell BK272.out 2).trans rfl, ((HB.out.cell (World.block_lt_of_cell? w _ hw284_0)).trans hw284_0), ((HB.out.cell (World.block_lt_of_cell? w _ hw284_1)).trans hw284_1), ((HB.out.cell (World.block_lt_of_cell? w _ hw284_2)).trans hw284_2)⟩ (fun hHeld => ?_)
             generalize w101.drew = w102 at BK271 BK272 BK283 HB HR284_1 HR284_2 hx284_0 hx284_1 hx284_2 hHeld ⊢
             refine pure_ (i := 1) (N := some 89) (v := ?_) (a' := ?_) #[false, true, false, false, false, false, false] rfl rfl (by kernel_rfl) (fun _ _ _ h => h) (Or.inl ⟨by rfl, ?_⟩) ?_ ?_
             rotate_left
             ·intro w'
              go_simp
              with_reducible rfl
             rotate_left
             ·simp only [Act.put, List.setIfInBounds_toArray, List.set_cons_zero, List.set_cons_succ, i64_w, i32_w]
              rfl
             refine take_ (i := 0) (N := some 88) (v := ?_) (a' := ?_) #[true, true, false, false, false, false, false] rfl rfl (by kernel_rfl) (fun _ _ _ h => h) (Or.inl ⟨by rfl, ?_⟩) hHeld ?_ ?_
             rotate_left
             ·rintro w' ⟨s0, s1, s2, s3, s4, s5, s6, s7, s8, s9, s10⟩
              go_simp
              with_reducible rfl
             rotate_left
             ·simp only [Act.put, List.setIfInBounds_toArray, List.set_cons_zero, List.set_cons_succ, i64_w, i32_w]
              rfl
             refine take_ (i := 2) (N := some 90) (v := ?_) (a' := ?_) #[true, true, true, false, false, false, false] rfl rfl (by kernel_rfl) (fun _ _ _ h => h) (Or.inl ⟨by rfl, ?_⟩) hHeld ?_ ?_
             rotate_left
             ·rintro w' ⟨s0, s1, s2, s3, s4, s5, s6, s7, s8, s9, s10⟩
              go_simp
              with_reducible rfl
             rotate_left
             ·simp only [Act.put, List.setIfInBounds_toArray, List.set_cons_zero, List.set_cons_succ, i64_w, i32_w]
              rfl
             refine pure_ (i := 3) (N := some 91) (v := ?_) (a' := ?_) #[true, true, true, true, false, false, false] rfl rfl (by kernel_rfl) (fun _ _ _ h => h) (Or.inl ⟨by rfl, ?_⟩) ?_ ?_
             rotate_left
             ·intro w'
              go_simp
              with_reducible rfl
             rotate_left
             ·simp only [Act.put, List.setIfInBounds_toArray, List.set_cons_zero, List.set_cons_succ, i64_w, i32_w]
              rfl
             refine take_ (i := 4) (N := some 92) (v := ?_) (a' := ?_) #[true, true, true, true, true, false, false] rfl rfl (by kernel_rfl) (fun _ _ _ h => h) (Or.inl ⟨by rfl, ?_⟩) hHeld ?_ ?_
             rotate_left
             ·rintro w' ⟨s0, s1, s2, s3, s4, s5, s6, s7, s8, s9, s10⟩
              go_simp
              with_reducible rfl
             rotate_left
             ·simp only [Act.put, List.setIfInBounds_toArray, List.set_cons_zero, List.set_cons_succ, i64_w, i32_w]
              rfl
             refine one_ (i := 5) (N := some 93) #[true, true, true, true, true, true, false] rfl rfl (by kernel_rfl) (by decide) (fun K hK => ?_)
             refine goes_ Try.func69 (by kernel_rfl) rfl #[.agg #[.int .i64 ((rd_T30 l0_4 x84_1).f0), .int .i64 ((rd_T30 l0_4 x84_1).f1), .string ((rd_T30 l0_4 x84_1).f2), .slice A282_3 ((rd_T30 l0_4 x84_1).f3).length c282_3, .slice A282_4 ((rd_T30 l0_4 x84_1).f4).length c282_4], .agg #[.int .i64 ((rd_T44 l1_2 0).f0), .slice A284_1 ((rd_T44 l1_2 0).f1).length c284_1, .slice A284_2 ((rd_T44 l1_2 0).f2).length c284_2]] (by rfl) rfl rfl ma_ ?_
             with_reducible refine (ih k1 (by have := HK1.out; omega) ((rd_T30 l0_4 x84_1).f0) ((rd_T30 l0_4 x84_1).f1) ((rd_T30 l0_4 x84_1).f2) _ _ ((rd_T30 l0_4 x84_1).f3) _ _ ((rd_T30 l0_4 x84_1).f4) ((rd_T44 l1_2 0).f0) _ _ ((rd_T44 l1_2 0).f1) _ _ ((rd_T44 l1_2 0).f2) false _ ?side1 ?side2 ?side3 ?side4 ?side5 ?side6 ?side7 ?side8 A88.out).mono ?_
             (case side1 => exact C_ (Kd.C_below HR282_3.out HB.out))
             (case side2 => exact HC282_3.out)
             (case side3 => exact C_ (Kd.C_below HR282_4.out HB.out))
             (case side4 => exact HC282_4.out)
             (case side5 => exact C_ (Kd.C_below HR284_1.out HB.out))
             (case side6 => exact HC284_1.out)
             (case side7 => exact C_ (Kd.C_below HR284_2.out HB.out))
             (case side8 => exact HC284_2.out)
             rintro e w103 ⟨rfl, hb⟩
             refine ⟨_, rfl, ?_⟩
             replace BK271 := Aside0.mk (blk_below (K_ BK271.out) hb)
             replace BK272 := Aside0.mk (blk_below (K_ BK272.out) hb)
             replace BK283 := Aside0.mk (blk_below (K_ BK283.out) hb)
             replace HB := Aside0.mk (below_step (B3_ HB.out GE271.out GE272.out GE283.out) hb)
             (try clear hb)
             (try clear hb2)
             (try clear hk)
             (try clear hi)
             refine hK.out _ _ ⟨(blk_cell BK283.out 0).trans rfl, (blk_cell BK283.out 1).trans rfl, (blk_cell BK283.out 2).trans rfl, (blk_cell BK283.out 3).trans rfl, (blk_cell BK283.out 4).trans rfl, (blk_cell BK272.out 0).trans rfl, (blk_cell BK272.out 1).trans rfl, (blk_cell BK272.out 2).trans rfl, ((HB.out.cell (World.block_lt_of_cell? w _ hw284_0)).trans hw284_0), ((HB.out.cell (World.block_lt_of_cell? w _ hw284_1)).trans hw284_1), ((HB.out.cell (World.block_lt_of_cell? w _ hw284_2)).trans hw284_2)⟩ (fun hHeld => ?_)
             clear hK K
             refine norm_ (a' := ?_) ?_ ?_
             rotate_left
             ·show Act.put _ (some 93) _ = _
              simp only [Act.put, List.setIfInBounds_toArray, List.set_cons_zero, List.set_cons_succ, i64_w, i32_w]
              rfl
             refine pure_ (i := 6) (N := some 94) (v := ?_) (a' := ?_) #[true, true, true, true, true, true, true] rfl rfl (by kernel_rfl) (fun _ _ _ h => h) (Or.inl ⟨by rfl, ?_⟩) ?_ ?_
             rotate_left
             ·intro w'
              go_simp
              with_reducible rfl
             rotate_left
             ·simp only [Act.put, List.setIfInBounds_toArray, List.set_cons_zero, List.set_cons_succ, i64_w, i32_w]
              rfl
             refine done_ (by kernel_rfl) ?_
             try go_wp2
             go_ret
             exact ⟨er_, B3_ HB.out GE271.out GE272.out GE283.out⟩
           ·rw [if_neg c87] at H
            exact absurd H (by simp)
          ·rw [if_neg c86] at H
           exact absurd H (by simp)
         ·rw [if_neg c85] at H
          exact absurd H (by simp)
        ·rw [if_neg c84] at H
         have c84b0 : decide (x84_1 < (l0_4.length : Int)) = false := decide_eq_false c84
         clear c84
         obtain rfl := Option.some.inj H
         go_wp2
         go_ret
         exact ⟨er_, B2_ HB.out GE271.out GE272.out⟩
     ·rw [if_neg c78] at H
      have c78b0 : (a0_0 == 5) = false := beq_eq_false_iff_ne.mpr c78
      have c78b1 : (a0_0 != 5) = true := bne_iff_ne.mpr c78
      obtain rfl := Option.some.inj H
      go_enter Try.func69, Try.ntmps69
      go_wp2_with (first | ((with_reducible refine gate_dst (N := 2) rfl ?_); refine box_event ?hg (N := 2) ?hd (cs := #[.int .i64 a0_0, .int .i64 a0_1, .string a0_2, .slice A0_3 l0_3.length c0_3, .slice A0_4 l0_4.length c0_4]) (t := 30) ?hr ?_; (case hd => rfl); (case hg => rfl); (case hr => first | (go_simp; done) | (go_simp; rfl)); intro gb271 hg w104 hbox hb; have BK271 := Aside0.mk (hbox); have GW271 := Aside0.mk ((by rw [hg]; exact (below_size (B0_ HB.out)) : w.heap.size ≤ gb271)); have GE271 := Aside0.mk ((by rw [hg]; exact (below_size (B0_ HB.out)) : w.heap.size ≤ gb271)); replace HB := Aside0.mk (below_step (B0_ HB.out) hb); clear hb hbox hg) | ((with_reducible refine gate_dst (N := 3) rfl ?_); refine box_event ?hg (N := 3) ?hd (cs := #[.int .i64 a1_0, .slice A1_1 l1_1.length c1_1, .slice A1_2 l1_2.length c1_2]) (t := 44) ?hr ?_; (case hd => rfl); (case hg => rfl); (case hr => first | (go_simp; done) | (go_simp; rfl)); intro gb272 hg w105 hbox hb; have BK272 := Aside0.mk (hbox); have GW272 := Aside0.mk ((by rw [hg]; exact (below_size (B1_ HB.out GE271.out)) : w.heap.size ≤ gb272)); have GE272 := Aside0.mk ((by rw [hg]; exact (below_size (B1_ HB.out GE271.out)) : w.heap.size ≤ gb272)); replace HB := Aside0.mk (below_step (B1_ HB.out GE271.out) hb); have NB271_272 := Aside0.mk ((by rw [hg]; exact Nat.ne_of_lt (blk_lt (K_ BK271.out)) : gb271 ≠ gb272)); have NB272_271 := Aside0.mk ((by rw [hg]; exact Nat.ne_of_gt (blk_lt (K_ BK271.out)) : gb272 ≠ gb271)); replace BK271 := Aside0.mk (blk_below (K_ BK271.out) hb); clear hb hbox hg; have hnb106 := NB272_271.out; have hnc106 := NB271_272.out; obtain ⟨hcz107_0, hcz107_1, hcz107_2, hfz107_0, hfz107_1, hfz107_2⟩ := box3_ BK272.out; obtain ⟨hcz108_0, hcz108_1, hcz108_2, hcz108_3, hcz108_4, hfz108_0, hfz108_1, hfz108_2, hfz108_3, hfz108_4⟩ := box5_ BK271.out))
      go_ret
      exact ⟨er_, B2_ HB.out GE271.out GE272.out⟩

end Go.Proofs.Ytmelflbbeecjfaa.XB
