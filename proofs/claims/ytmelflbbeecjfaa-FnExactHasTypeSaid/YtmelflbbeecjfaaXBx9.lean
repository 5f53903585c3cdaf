-- Written by myprint.py, a program of this session, which runs the kit's printer with changes of its own. Lean checks it.
import Derived.Test.YtmelflbbeecjfaaXBx0
import Derived.Test.YtmelflbbeecjfaaXBx8
import Derived.Test.YtmelflbbeecjfaaSq
namespace Go.Proofs.Ytmelflbbeecjfaa.XB
open Go.RowKit Go.Proofs.YtmelflbbeecjfaaW.PrintWords Go.Proofs.YtmelflbbeecjfaaW.PrintLast Go.Proofs.YtmelflbbeecjfaaW.PrintMore Go.Proofs.Ytmelflbbeecjfaa.Sq
attribute [local go_sem] max2_int min2_int max_two min_two max_three min_three max_four min_four   -- for this text's walks alone
set_option linter.unusedVariables false
set_option linter.unusedSimpArgs false

/-! ### spec_l5Has: function 68 -/
mutual
def spec_l5Has.j0 : Nat → Bool → Int → Int → ByteArray → List ByteArray → List (S30) → Int → List ByteArray → List (S44) → Option (Bool)
 | 0, _, _, _, _, _, _, _, _, _ => none
 | k + 1, x32, x215000, x215001, x215002, x215003, x215004, x216000, x216001, x216002 => if x32 = true then (some false) else (spec_l5Has.l0 k 0 x215000 x215001 x215002 x215003 x215004 x216000 x216001 x216002)
def spec_l5Has.l0 : Nat → Int → Int → Int → ByteArray → List ByteArray → List (S30) → Int → List ByteArray → List (S44) → Option (Bool)
 | 0, _, _, _, _, _, _, _, _, _ => none
 | k + 1, x5, x215000, x215001, x215002, x215003, x215004, x216000, x216001, x216002 => if x5 < (x215004.length : Int) then (if 0 ≤ x5 then (if x5 < (x216002.length : Int) then ((spec_l5Has.f k ((rd_T30 x215004 x5).f0) ((rd_T30 x215004 x5).f1) ((rd_T30 x215004 x5).f2) ((rd_T30 x215004 x5).f3) ((rd_T30 x215004 x5).f4) ((rd_T44 x216002 x5).f0) ((rd_T44 x216002 x5).f1) ((rd_T44 x216002 x5).f2)).bind fun t219 => (if t219 = true then (spec_l5Has.l0 k (wrap64 (x5 + 1)) x215000 x215001 x215002 x215003 x215004 x216000 x216001 x216002) else (some false))) else (none)) else (none)) else (some true)
def spec_l5Has.l1 : Nat → Int → Int → Int → ByteArray → List ByteArray → List (S30) → Int → List ByteArray → List (S44) → Option (Bool)
 | 0, _, _, _, _, _, _, _, _, _ => none
 | k + 1, x7, x215000, x215001, x215002, x215003, x215004, x216000, x216001, x216002 => if x7 < (x215004.length : Int) then (spec_l5Has.j3 k x7 (x215000 == 5) x215000 x215001 x215002 x215003 x215004 x216000 x216001 x216002) else (spec_l5Has.j3 k x7 false x215000 x215001 x215002 x215003 x215004 x216000 x216001 x216002)
def spec_l5Has.j3 : Nat → Int → Bool → Int → Int → ByteArray → List ByteArray → List (S30) → Int → List ByteArray → List (S44) → Option (Bool)
 | 0, _, _, _, _, _, _, _, _, _, _ => none
 | k + 1, x7, x87, x215000, x215001, x215002, x215003, x215004, x216000, x216001, x216002 => if x87 = true then (if 0 ≤ x7 then (if x7 < (x215004.length : Int) then (if 0 < (x216002.length : Int) then ((spec_l5Has.f k ((rd_T30 x215004 x7).f0) ((rd_T30 x215004 x7).f1) ((rd_T30 x215004 x7).f2) ((rd_T30 x215004 x7).f3) ((rd_T30 x215004 x7).f4) ((rd_T44 x216002 0).f0) ((rd_T44 x216002 0).f1) ((rd_T44 x216002 0).f2)).bind fun t226 => (if t226 = true then (spec_l5Has.l1 k (wrap64 (x7 + 1)) x215000 x215001 x215002 x215003 x215004 x216000 x216001 x216002) else (some false))) else (none)) else (none)) else (none)) else (some (x215000 == 5))
def spec_l5Has.f : Nat → Int → Int → ByteArray → List ByteArray → List (S30) → Int → List ByteArray → List (S44) → Option (Bool)
 | 0, _, _, _, _, _, _, _, _ => none
 | k + 1, a0_0, a0_1, a0_2, l0_3, l0_4, a1_0, l1_1, l1_2 => if a1_0 = 1 then (some (a0_0 == 1)) else (if a1_0 = 2 then (some (a0_0 == 2)) else (if a1_0 = 3 then (if a0_0 = 3 then ((spec_l3Texts.f k l0_3 l1_1).bind fun t216 => (spec_l5Has.j0 k (!t216) a0_0 a0_1 a0_2 l0_3 l0_4 a1_0 l1_1 l1_2)) else (spec_l5Has.j0 k true a0_0 a0_1 a0_2 l0_3 l0_4 a1_0 l1_1 l1_2)) else (if a1_0 = 4 then ((spec_IndexOf.f k l1_1 a0_2).bind fun t220 => (if a0_0 = 4 then (if t220 ≥ 0 then (if 0 < (l0_4.length : Int) then (if 0 ≤ t220 then (if t220 < (l1_2.length : Int) then ((spec_l5Has.f k ((rd_T30 l0_4 0).f0) ((rd_T30 l0_4 0).f1) ((rd_T30 l0_4 0).f2) ((rd_T30 l0_4 0).f3) ((rd_T30 l0_4 0).f4) ((rd_T44 l1_2 t220).f0) ((rd_T44 l1_2 t220).f1) ((rd_T44 l1_2 t220).f2)).bind fun t223 => (some t223)) else (none)) else (none)) else (none)) else (some false)) else (some false))) else (spec_l5Has.l1 k 0 a0_0 a0_1 a0_2 l0_3 l0_4 a1_0 l1_1 l1_2))))
end
theorem spec_l5Has.mono_l : ∀ k, (∀ y0 y1 y2 y3 y4 y5 y6 y7, LeO (spec_l5Has.f k y0 y1 y2 y3 y4 y5 y6 y7) (spec_l5Has.f (k + 1) y0 y1 y2 y3 y4 y5 y6 y7)) ∧ (∀ y0 y1 y2 y3 y4 y5 y6 y7 y8, LeO (spec_l5Has.j0 k y0 y1 y2 y3 y4 y5 y6 y7 y8) (spec_l5Has.j0 (k + 1) y0 y1 y2 y3 y4 y5 y6 y7 y8)) ∧ (∀ y0 y1 y2 y3 y4 y5 y6 y7 y8, LeO (spec_l5Has.l0 k y0 y1 y2 y3 y4 y5 y6 y7 y8) (spec_l5Has.l0 (k + 1) y0 y1 y2 y3 y4 y5 y6 y7 y8)) ∧ (∀ y0 y1 y2 y3 y4 y5 y6 y7 y8, LeO (spec_l5Has.l1 k y0 y1 y2 y3 y4 y5 y6 y7 y8) (spec_l5Has.l1 (k + 1) y0 y1 y2 y3 y4 y5 y6 y7 y8)) ∧ (∀ y0 y1 y2 y3 y4 y5 y6 y7 y8 y9, LeO (spec_l5Has.j3 k y0 y1 y2 y3 y4 y5 y6 y7 y8 y9) (spec_l5Has.j3 (k + 1) y0 y1 y2 y3 y4 y5 y6 y7 y8 y9))
 | 0 => ⟨fun _ _ _ _ _ _ _ _ r h => by simp [spec_l5Has.f] at h, fun _ _ _ _ _ _ _ _ _ r h => by simp [spec_l5Has.j0] at h, fun _ _ _ _ _ _ _ _ _ r h => by simp [spec_l5Has.l0] at h, fun _ _ _ _ _ _ _ _ _ r h => by simp [spec_l5Has.l1] at h, fun _ _ _ _ _ _ _ _ _ _ r h => by simp [spec_l5Has.j3] at h⟩
 | k + 1 => by
  obtain ⟨ih0, ih1, ih2, ih3, ih4⟩ := spec_l5Has.mono_l k
  refine ⟨?_, ?_, ?_, ?_, ?_⟩
  ·intro y0 y1 y2 y3 y4 y5 y6 y7
   unfold spec_l5Has.f
   repeat' first
   | (with_reducible exact ih0 _ _ _ _ _ _ _ _)
   | (with_reducible exact ih1 _ _ _ _ _ _ _ _ _)
   | (with_reducible exact ih2 _ _ _ _ _ _ _ _ _)
   | (with_reducible exact ih3 _ _ _ _ _ _ _ _ _)
   | (with_reducible exact ih4 _ _ _ _ _ _ _ _ _ _)
   | (with_reducible exact spec_IndexOf.mono _ _ _)
   | (with_reducible exact spec_l3Texts.mono _ _ _)
   | (with_reducible exact LeO.refl _)
   | (with_reducible exact LeO.none _)
   | (with_reducible refine LeO.ite ?_ ?_)
   | (with_reducible refine LeO.bind ?_ (fun _ => ?_))
   | exact ih0 _ _ _ _ _ _ _ _
   | exact ih1 _ _ _ _ _ _ _ _ _
   | exact ih2 _ _ _ _ _ _ _ _ _
   | exact ih3 _ _ _ _ _ _ _ _ _
   | exact ih4 _ _ _ _ _ _ _ _ _ _
   | exact spec_IndexOf.mono _ _ _
   | exact spec_l3Texts.mono _ _ _
   | exact LeO.none _
   | refine LeO.ite ?_ ?_
   | refine LeO.bind ?_ (fun _ => ?_)
  ·intro y0 y1 y2 y3 y4 y5 y6 y7 y8
   unfold spec_l5Has.j0
   repeat' first
   | (with_reducible exact ih0 _ _ _ _ _ _ _ _)
   | (with_reducible exact ih1 _ _ _ _ _ _ _ _ _)
   | (with_reducible exact ih2 _ _ _ _ _ _ _ _ _)
   | (with_reducible exact ih3 _ _ _ _ _ _ _ _ _)
   | (with_reducible exact ih4 _ _ _ _ _ _ _ _ _ _)
   | (with_reducible exact spec_IndexOf.mono _ _ _)
   | (with_reducible exact spec_l3Texts.mono _ _ _)
   | (with_reducible exact LeO.refl _)
   | (with_reducible exact LeO.none _)
   | (with_reducible refine LeO.ite ?_ ?_)
   | (with_reducible refine LeO.bind ?_ (fun _ => ?_))
   | exact ih0 _ _ _ _ _ _ _ _
   | exact ih1 _ _ _ _ _ _ _ _ _
   | exact ih2 _ _ _ _ _ _ _ _ _
   | exact ih3 _ _ _ _ _ _ _ _ _
   | exact ih4 _ _ _ _ _ _ _ _ _ _
   | exact spec_IndexOf.mono _ _ _
   | exact spec_l3Texts.mono _ _ _
   | exact LeO.none _
   | refine LeO.ite ?_ ?_
   | refine LeO.bind ?_ (fun _ => ?_)
  ·intro y0 y1 y2 y3 y4 y5 y6 y7 y8
   unfold spec_l5Has.l0
   repeat' first
   | (with_reducible exact ih0 _ _ _ _ _ _ _ _)
   | (with_reducible exact ih1 _ _ _ _ _ _ _ _ _)
   | (with_reducible exact ih2 _ _ _ _ _ _ _ _ _)
   | (with_reducible exact ih3 _ _ _ _ _ _ _ _ _)
   | (with_reducible exact ih4 _ _ _ _ _ _ _ _ _ _)
   | (with_reducible exact spec_IndexOf.mono _ _ _)
   | (with_reducible exact spec_l3Texts.mono _ _ _)
   | (with_reducible exact LeO.refl _)
   | (with_reducible exact LeO.none _)
   | (with_reducible refine LeO.ite ?_ ?_)
   | (with_reducible refine LeO.bind ?_ (fun _ => ?_))
   | exact ih0 _ _ _ _ _ _ _ _
   | exact ih1 _ _ _ _ _ _ _ _ _
   | exact ih2 _ _ _ _ _ _ _ _ _
   | exact ih3 _ _ _ _ _ _ _ _ _
   | exact ih4 _ _ _ _ _ _ _ _ _ _
   | exact spec_IndexOf.mono _ _ _
   | exact spec_l3Texts.mono _ _ _
   | exact LeO.none _
   | refine LeO.ite ?_ ?_
   | refine LeO.bind ?_ (fun _ => ?_)
  ·intro y0 y1 y2 y3 y4 y5 y6 y7 y8
   unfold spec_l5Has.l1
   repeat' first
   | (with_reducible exact ih0 _ _ _ _ _ _ _ _)
   | (with_reducible exact ih1 _ _ _ _ _ _ _ _ _)
   | (with_reducible exact ih2 _ _ _ _ _ _ _ _ _)
   | (with_reducible exact ih3 _ _ _ _ _ _ _ _ _)
   | (with_reducible exact ih4 _ _ _ _ _ _ _ _ _ _)
   | (with_reducible exact spec_IndexOf.mono _ _ _)
   | (with_reducible exact spec_l3Texts.mono _ _ _)
   | (with_reducible exact LeO.refl _)
   | (with_reducible exact LeO.none _)
   | (with_reducible refine LeO.ite ?_ ?_)
   | (with_reducible refine LeO.bind ?_ (fun _ => ?_))
   | exact ih0 _ _ _ _ _ _ _ _
   | exact ih1 _ _ _ _ _ _ _ _ _
   | exact ih2 _ _ _ _ _ _ _ _ _
   | exact ih3 _ _ _ _ _ _ _ _ _
   | exact ih4 _ _ _ _ _ _ _ _ _ _
   | exact spec_IndexOf.mono _ _ _
   | exact spec_l3Texts.mono _ _ _
   | exact LeO.none _
   | refine LeO.ite ?_ ?_
   | refine LeO.bind ?_ (fun _ => ?_)
  ·intro y0 y1 y2 y3 y4 y5 y6 y7 y8 y9
   unfold spec_l5Has.j3
   repeat' first
   | (with_reducible exact ih0 _ _ _ _ _ _ _ _)
   | (with_reducible exact ih1 _ _ _ _ _ _ _ _ _)
   | (with_reducible exact ih2 _ _ _ _ _ _ _ _ _)
   | (with_reducible exact ih3 _ _ _ _ _ _ _ _ _)
   | (with_reducible exact ih4 _ _ _ _ _ _ _ _ _ _)
   | (with_reducible exact spec_IndexOf.mono _ _ _)
   | (with_reducible exact spec_l3Texts.mono _ _ _)
   | (with_reducible exact LeO.refl _)
   | (with_reducible exact LeO.none _)
   | (with_reducible refine LeO.ite ?_ ?_)
   | (with_reducible refine LeO.bind ?_ (fun _ => ?_))
   | exact ih0 _ _ _ _ _ _ _ _
   | exact ih1 _ _ _ _ _ _ _ _ _
   | exact ih2 _ _ _ _ _ _ _ _ _
   | exact ih3 _ _ _ _ _ _ _ _ _
   | exact ih4 _ _ _ _ _ _ _ _ _ _
   | exact spec_IndexOf.mono _ _ _
   | exact spec_l3Texts.mono _ _ _
   | exact LeO.none _
   | refine LeO.ite ?_ ?_
   | refine LeO.bind ?_ (fun _ => ?_)
theorem spec_l5Has.mono : ∀ a0 a1 a2 a3 a4 a5 a6 a7 k, LeO (spec_l5Has.f k a0 a1 a2 a3 a4 a5 a6 a7) (spec_l5Has.f (k + 1) a0 a1 a2 a3 a4 a5 a6 a7) := by
 intro a0 a1 a2 a3 a4 a5 a6 a7 k
 obtain ⟨ih0, ih1, ih2, ih3, ih4⟩ := spec_l5Has.mono_l k
 exact ih0 a0 a1 a2 a3 a4 a5 a6 a7
def spec_l5Has.T12 : Bool × List (List Nat × List Nat) := (true, [([], []), ([0], [0]), ([], []), ([1, 2], [1, 2]), ([3], [3]), ([], []), ([5], [5]), ([], []), ([6, 7], [6, 7]), ([8], [8]), ([4, 9], [4, 9]), ([10], [10])])
def spec_l5Has.B12 : List Nat := [0, 1, 0, 7, 15, 0, 32, 0, 224, 480, 1023, 2047]
theorem spec_l5Has.tab12 : rtab .any (opsOf Try.f68 12) = spec_l5Has.T12 := by kernel_rfl
theorem spec_l5Has.bits12 : waitsOk spec_l5Has.T12.2 spec_l5Has.B12 = true := by kernel_rfl
def spec_l5Has.T17 : Bool × List (List Nat × List Nat) := (true, [([], []), ([0], [0]), ([1], [1]), ([2], [2]), ([3], [3]), ([4, 3], [3, 4]), ([3, 5], [3, 5]), ([6, 3], [6]), ([7], [7]), ([8, 7], [7, 8]), ([9, 7], [7, 9]), ([10, 7], [7, 10]), ([7], [7]), ([12, 7], [7, 12]), ([7], [7]), ([13, 14, 7], [7, 13, 14]), ([15, 7], [7, 15]), ([11, 16, 7, 7], [7, 11, 16]), ([7, 17], [7, 17]), ([18, 17, 0, 1, 2, 3, 4, 5, 6, 7, 8, 9, 10, 11, 12, 13, 14, 15, 16, 17, 18], [18])])
def spec_l5Has.B17 : List Nat := [0, 1, 3, 7, 15, 31, 63, 127, 255, 511, 1023, 2047, 255, 4351, 255, 28927, 61695, 131071, 262143, 524287]
theorem spec_l5Has.tab17 : rtab .any (opsOf Try.f68 17) = spec_l5Has.T17 := by kernel_rfl
theorem spec_l5Has.bits17 : waitsOk spec_l5Has.T17.2 spec_l5Has.B17 = true := by kernel_rfl
def spec_l5Has.T21 : Bool × List (List Nat × List Nat) := (true, [([], []), ([0], [0]), ([], []), ([1, 2], [1, 2]), ([3], [3]), ([], []), ([5], [5]), ([6], [6]), ([7], [7]), ([4, 8], [4, 8]), ([9], [9])])
def spec_l5Has.B21 : List Nat := [0, 1, 0, 7, 15, 0, 32, 96, 224, 511, 1023]
theorem spec_l5Has.tab21 : rtab .any (opsOf Try.f68 21) = spec_l5Has.T21 := by kernel_rfl
theorem spec_l5Has.bits21 : waitsOk spec_l5Has.T21.2 spec_l5Has.B21 = true := by kernel_rfl
set_option maxHeartbeats 8000000 in
set_option maxRecDepth 100000 in
theorem spec_l5Has.calls (k : Nat) : ∀ (a0_0 : Int) (a0_1 : Int) (a0_2 : ByteArray) (A0_3 : Option Addr) (c0_3 : Nat) (l0_3 : List ByteArray) (A0_4 : Option Addr) (c0_4 : Nat) (l0_4 : List (S30)) (a1_0 : Int) (A1_1 : Option Addr) (c1_1 : Nat) (l1_1 : List ByteArray) (A1_2 : Option Addr) (c1_2 : Nat) (l1_2 : List (S44)) (r : Bool) (w : World) (hr0_3 : Kd.C Kd.string w A0_3 l0_3.length l0_3) (hc0_3 : l0_3.length ≤ c0_3) (hr0_4 : Kd.C k30 w A0_4 l0_4.length l0_4) (hc0_4 : l0_4.length ≤ c0_4) (hr1_1 : Kd.C Kd.string w A1_1 l1_1.length l1_1) (hc1_1 : l1_1.length ≤ c1_1) (hr1_2 : Kd.C k44 w A1_2 l1_2.length l1_2) (hc1_2 : l1_2.length ≤ c1_2) (h : spec_l5Has.f k a0_0 a0_1 a0_2 l0_3 l0_4 a1_0 l1_1 l1_2 = some r),
  Calls Try.prog 68 #[.agg #[.int .i64 a0_0, .int .i64 a0_1, .string a0_2, .slice A0_3 l0_3.length c0_3, .slice A0_4 l0_4.length c0_4], .agg #[.int .i64 a1_0, .slice A1_1 l1_1.length c1_1, .slice A1_2 l1_2.length c1_2]] w fun e w' => e = .returned (.bool r) ∧ Below w.heap.size w w' := by
 induction k using Nat.strongRecOn with
 | _ k ih =>
 intro a0_0 a0_1 a0_2 A0_3 c0_3 l0_3 A0_4 c0_4 l0_4 a1_0 A1_1 c1_1 l1_1 A1_2 c1_2 l1_2 r w hr0_3 hc0_3 hr0_4 hc0_4 hr1_1 hc1_1 hr1_2 hc1_2 h
 cases k with
 | zero => exact absurd h (by simp [spec_l5Has.f])
 | succ k =>
 simp only [spec_l5Has.f] at h
 have hu30 := Try.underlying30
 have hu44 := Try.underlying44
 have HR0_3 := Aside0.mk hr0_3
 have HC0_3 := Aside0.mk hc0_3
 clear hr0_3 hc0_3
 have HR0_4 := Aside0.mk hr0_4
 have HC0_4 := Aside0.mk hc0_4
 clear hr0_4 hc0_4
 have HR1_1 := Aside0.mk hr1_1
 have HC1_1 := Aside0.mk hc1_1
 clear hr1_1 hc1_1
 have HR1_2 := Aside0.mk hr1_2
 have HC1_2 := Aside0.mk hc1_2
 clear hr1_2 hc1_2
 have HB := Aside0.mk (Below.refl w.heap.size w)
 have H : (if a1_0 = 1 then (some (a0_0 == 1)) else (if a1_0 = 2 then (some (a0_0 == 2)) else (if a1_0 = 3 then (if a0_0 = 3 then ((spec_l3Texts.f k l0_3 l1_1).bind fun t216 => (spec_l5Has.j0 k (!t216) a0_0 a0_1 a0_2 l0_3 l0_4 a1_0 l1_1 l1_2)) else (spec_l5Has.j0 k true a0_0 a0_1 a0_2 l0_3 l0_4 a1_0 l1_1 l1_2)) else (if a1_0 = 4 then ((spec_IndexOf.f k l1_1 a0_2).bind fun t220 => (if a0_0 = 4 then (if t220 ≥ 0 then (if 0 < (l0_4.length : Int) then (if 0 ≤ t220 then (if t220 < (l1_2.length : Int) then ((spec_l5Has.f k ((rd_T30 l0_4 0).f0) ((rd_T30 l0_4 0).f1) ((rd_T30 l0_4 0).f2) ((rd_T30 l0_4 0).f3) ((rd_T30 l0_4 0).f4) ((rd_T44 l1_2 t220).f0) ((rd_T44 l1_2 t220).f1) ((rd_T44 l1_2 t220).f2)).bind fun t223 => (some t223)) else (none)) else (none)) else (none)) else (some false)) else (some false))) else (spec_l5Has.l1 k 0 a0_0 a0_1 a0_2 l0_3 l0_4 a1_0 l1_1 l1_2))))) = some r := h
 clear h
 by_cases c3 : a1_0 = 1
 ·rw [if_pos c3] at H
  have c3b0 : (a1_0 == 1) = true := beq_iff_eq.mpr c3
  have c3b1 : (a1_0 != 1) = false := bne_eq_false_iff_eq.mpr c3
  clear c3
  obtain rfl := Option.some.inj H
  go_enter Try.func68, Try.ntmps68
  go_wp2_with (first | ((with_reducible refine gate_dst (N := 2) rfl ?_); refine box_event ?hg (N := 2) ?hd (cs := #[.int .i64 a0_0, .int .i64 a0_1, .string a0_2, .slice A0_3 l0_3.length c0_3, .slice A0_4 l0_4.length c0_4]) (t := 30) ?hr ?_; (case hd => rfl); (case hg => rfl); (case hr => first | (go_simp; done) | (go_simp; rfl)); intro gb214 hg w4 hbox hb; have BK214 := Aside0.mk (hbox); have GW214 := Aside0.mk ((by rw [hg]; exact (below_size (B0_ HB.out)) : w.heap.size ≤ gb214)); have GE214 := Aside0.mk ((by rw [hg]; exact (below_size (B0_ HB.out)) : w.heap.size ≤ gb214)); replace HB := Aside0.mk (below_step (B0_ HB.out) hb); clear hb hbox hg) | ((with_reducible refine gate_dst (N := 3) rfl ?_); refine box_event ?hg (N := 3) ?hd (cs := #[.int .i64 a1_0, .slice A1_1 l1_1.length c1_1, .slice A1_2 l1_2.length c1_2]) (t := 44) ?hr ?_; (case hd => rfl); (case hg => rfl); (case hr => first | (go_simp; done) | (go_simp; rfl)); intro gb215 hg w5 hbox hb; have BK215 := Aside0.mk (hbox); have GW215 := Aside0.mk ((by rw [hg]; exact (below_size (B1_ HB.out GE214.out)) : w.heap.size ≤ gb215)); have GE215 := Aside0.mk ((by rw [hg]; exact (below_size (B1_ HB.out GE214.out)) : w.heap.size ≤ gb215)); replace HB := Aside0.mk (below_step (B1_ HB.out GE214.out) hb); have NB214_215 := Aside0.mk ((by rw [hg]; exact Nat.ne_of_lt (blk_lt (K_ BK214.out)) : gb214 ≠ gb215)); have NB215_214 := Aside0.mk ((by rw [hg]; exact Nat.ne_of_gt (blk_lt (K_ BK214.out)) : gb215 ≠ gb214)); replace BK214 := Aside0.mk (blk_below (K_ BK214.out) hb); clear hb hbox hg; have hnb6 := NB215_214.out; have hnc6 := NB214_215.out; obtain ⟨hcz7_0, hcz7_1, hcz7_2, hfz7_0, hfz7_1, hfz7_2⟩ := box3_ BK215.out; obtain ⟨hcz8_0, hcz8_1, hcz8_2, hcz8_3, hcz8_4, hfz8_0, hfz8_1, hfz8_2, hfz8_3, hfz8_4⟩ := box5_ BK214.out))
  go_ret
  exact ⟨er_, B2_ HB.out GE214.out GE215.out⟩
 ·rw [if_neg c3] at H
  have c3b0 : (a1_0 == 1) = false := beq_eq_false_iff_ne.mpr c3
  have c3b1 : (a1_0 != 1) = true := bne_iff_ne.mpr c3
  by_cases c9 : a1_0 = 2
  ·rw [if_pos c9] at H
   have c9b0 : (a1_0 == 2) = true := beq_iff_eq.mpr c9
   have c9b1 : (a1_0 != 2) = false := bne_eq_false_iff_eq.mpr c9
   clear c9
   obtain rfl := Option.some.inj H
   go_enter Try.func68, Try.ntmps68
   go_wp2_with (first | ((with_reducible refine gate_dst (N := 2) rfl ?_); refine box_event ?hg (N := 2) ?hd (cs := #[.int .i64 a0_0, .int .i64 a0_1, .string a0_2, .slice A0_3 l0_3.length c0_3, .slice A0_4 l0_4.length c0_4]) (t := 30) ?hr ?_; (case hd => rfl); (case hg => rfl); (case hr => first | (go_simp; done) | (go_simp; rfl)); intro gb214 hg w10 hbox hb; have BK214 := Aside0.mk (hbox); have GW214 := Aside0.mk ((by rw [hg]; exact (below_size (B0_ HB.out)) : w.heap.size ≤ gb214)); have GE214 := Aside0.mk ((by rw [hg]; exact (below_size (B0_ HB.out)) : w.heap.size ≤ gb214)); replace HB := Aside0.mk (below_step (B0_ HB.out) hb); clear hb hbox hg) | ((with_reducible refine gate_dst (N := 3) rfl ?_); refine box_event ?hg (N := 3) ?hd (cs := #[.int .i64 a1_0, .slice A1_1 l1_1.length c1_1, .slice A1_2 l1_2.length c1_2]) (t := 44) ?hr ?_; (case hd => rfl); (case hg => rfl); (case hr => first | (go_simp; done) | (go_simp; rfl)); intro gb215 hg w11 hbox hb; have BK215 := Aside0.mk (hbox); have GW215 := Aside0.mk ((by rw [hg]; exact (below_size (B1_ HB.out GE214.out)) : w.heap.size ≤ gb215)); have GE215 := Aside0.mk ((by rw [hg]; exact (below_size (B1_ HB.out GE214.out)) : w.heap.size ≤ gb215)); replace HB := Aside0.mk (below_step (B1_ HB.out GE214.out) hb); have NB214_215 := Aside0.mk ((by rw [hg]; exact Nat.ne_of_lt (blk_lt (K_ BK214.out)) : gb214 ≠ gb215)); have NB215_214 := Aside0.mk ((by rw [hg]; exact Nat.ne_of_gt (blk_lt (K_ BK214.out)) : gb215 ≠ gb214)); replace BK214 := Aside0.mk (blk_below (K_ BK214.out) hb); clear hb hbox hg; have hnb12 := NB215_214.out; have hnc12 := NB214_215.out; obtain ⟨hcz13_0, hcz13_1, hcz13_2, hfz13_0, hfz13_1, hfz13_2⟩ := box3_ BK215.out; obtain ⟨hcz14_0, hcz14_1, hcz14_2, hcz14_3, hcz14_4, hfz14_0, hfz14_1, hfz14_2, hfz14_3, hfz14_4⟩ := box5_ BK214.out))
   go_ret
   exact ⟨er_, B2_ HB.out GE214.out GE215.out⟩
  ·rw [if_neg c9] at H
   have c9b0 : (a1_0 == 2) = false := beq_eq_false_iff_ne.mpr c9
   have c9b1 : (a1_0 != 2) = true := bne_iff_ne.mpr c9
   by_cases c15 : a1_0 = 3
   ·rw [if_pos c15] at H
    have c15b0 : (a1_0 == 3) = true := beq_iff_eq.mpr c15
    have c15b1 : (a1_0 != 3) = false := bne_eq_false_iff_eq.mpr c15
    clear c15
    have HC16 := Aside0.mk H
    clear H
    go_enter Try.func68, Try.ntmps68
    go_upto_region 7 with (first | ((with_reducible refine gate_dst (N := 2) rfl ?_); refine box_event ?hg (N := 2) ?hd (cs := #[.int .i64 a0_0, .int .i64 a0_1, .string a0_2, .slice A0_3 l0_3.length c0_3, .slice A0_4 l0_4.length c0_4]) (t := 30) ?hr ?_; (case hd => rfl); (case hg => rfl); (case hr => first | (go_simp; done) | (go_simp; rfl)); intro gb214 hg w17 hbox hb; have BK214 := Aside0.mk (hbox); have GW214 := Aside0.mk ((by rw [hg]; exact (below_size (B0_ HB.out)) : w.heap.size ≤ gb214)); have GE214 := Aside0.mk ((by rw [hg]; exact (below_size (B0_ HB.out)) : w.heap.size ≤ gb214)); replace HB := Aside0.mk (below_step (B0_ HB.out) hb); clear hb hbox hg) | ((with_reducible refine gate_dst (N := 3) rfl ?_); refine box_event ?hg (N := 3) ?hd (cs := #[.int .i64 a1_0, .slice A1_1 l1_1.length c1_1, .slice A1_2 l1_2.length c1_2]) (t := 44) ?hr ?_; (case hd => rfl); (case hg => rfl); (case hr => first | (go_simp; done) | (go_simp; rfl)); intro gb215 hg w18 hbox hb; have BK215 := Aside0.mk (hbox); have GW215 := Aside0.mk ((by rw [hg]; exact (below_size (B1_ HB.out GE214.out)) : w.heap.size ≤ gb215)); have GE215 := Aside0.mk ((by rw [hg]; exact (below_size (B1_ HB.out GE214.out)) : w.heap.size ≤ gb215)); replace HB := Aside0.mk (below_step (B1_ HB.out GE214.out) hb); have NB214_215 := Aside0.mk ((by rw [hg]; exact Nat.ne_of_lt (blk_lt (K_ BK214.out)) : gb214 ≠ gb215)); have NB215_214 := Aside0.mk ((by rw [hg]; exact Nat.ne_of_gt (blk_lt (K_ BK214.out)) : gb215 ≠ gb214)); replace BK214 := Aside0.mk (blk_below (K_ BK214.out) hb); clear hb hbox hg; have hnb19 := NB215_214.out; have hnc19 := NB214_215.out; obtain ⟨hcz20_0, hcz20_1, hcz20_2, hfz20_0, hfz20_1, hfz20_2⟩ := box3_ BK215.out))
    (try simp only [Act.put, List.setIfInBounds_toArray, List.set_cons_zero, List.set_cons_succ])
    go_cut [32] (fun v32 wc => ∃ (kq : Nat) (x32_15 : Bool), v32 = .bool x32_15 ∧ Aside0 (spec_l5Has.j0 kq x32_15 a0_0 a0_1 a0_2 l0_3 l0_4 a1_0 l1_1 l1_2 = some r) ∧ Aside0 (kq ≤ k) ∧ Aside0 (wc.heap[gb214]? = some (.cells #[.int .i64 a0_0, .int .i64 a0_1, .string a0_2, (.slice A0_3 l0_3.length c0_3), (.slice A0_4 l0_4.length c0_4)] 30 (0, 0))) ∧ Aside0 (wc.heap[gb215]? = some (.cells #[.int .i64 a1_0, (.slice A1_1 l1_1.length c1_1), (.slice A1_2 l1_2.length c1_2)] 44 (0, 0))) ∧ Aside0 (Below w.heap.size w wc))
    case first =>
     have H := HC16.out
     clear HC16
     by_cases c21 : a0_0 = 3
     ·rw [if_pos c21] at H
      have c21b0 : (a0_0 == 3) = true := beq_iff_eq.mpr c21
      have c21b1 : (a0_0 != 3) = false := bne_eq_false_iff_eq.mpr c21
      clear c21
      (first | rw [c21b0] | (simp only [i64_w, i32_w]; rw [c21b0]) | skip)
      replace H := Option.bind_eq_some_iff.mp H
      obtain ⟨t216, A220, H⟩ := H
      replace H : (spec_l5Has.j0 k (!t216) a0_0 a0_1 a0_2 l0_3 l0_4 a1_0 l1_1 l1_2) = some r := H
      have A22 := Aside0.mk A220
      clear A220
      have H' := Aside0.mk H
      clear H
      have hnb23 := NB214_215.out
      have hnc23 := NB215_214.out
      obtain ⟨hcz24_0, hcz24_1, hcz24_2, hcz24_3, hcz24_4, hfz24_0, hfz24_1, hfz24_2, hfz24_3, hfz24_4⟩ := box5_ BK214.out
      obtain ⟨hcz25_0, hcz25_1, hcz25_2, hfz25_0, hfz25_1, hfz25_2⟩ := box3_ BK215.out
      go_wp2_with (first | (go_at_call 49; (with_reducible refine (spec_l3Texts.calls k _ _ l0_3 _ _ l1_1 t216 _ ?side1 ?side2 ?side3 ?side4 A22.out).mono ?_); (case side1 => exact C_ (Kd.C_below HR0_3.out HB.out)); (case side2 => exact HC0_3.out); (case side3 => exact C_ (Kd.C_below HR1_1.out HB.out)); (case side4 => exact HC1_1.out); rintro e w' ⟨rfl, ⟨nd, rfl⟩⟩))
      go_meet
      case rel => exact ⟨_, (!t216), q_, H', ⟨le_⟩, ⟨K_ BK214.out⟩, ⟨K_ BK215.out⟩, ⟨B2_ HB.out GE214.out GE215.out⟩⟩
     ·rw [if_neg c21] at H
      have c21b0 : (a0_0 == 3) = false := beq_eq_false_iff_ne.mpr c21
      have c21b1 : (a0_0 != 3) = true := bne_iff_ne.mpr c21
      (first | rw [c21b0] | (simp only [i64_w, i32_w]; rw [c21b0]) | skip)
      have H' := Aside0.mk H
      clear H
      have hnb26 := NB214_215.out
      have hnc26 := NB215_214.out
      obtain ⟨hcz27_0, hcz27_1, hcz27_2, hcz27_3, hcz27_4, hfz27_0, hfz27_1, hfz27_2, hfz27_3, hfz27_4⟩ := box5_ BK214.out
      go_wp2
      go_meet
      case rel => exact ⟨_, (true), q_, H', ⟨le_⟩, ⟨K_ BK214.out⟩, ⟨K_ BK215.out⟩, ⟨B2_ HB.out GE214.out GE215.out⟩⟩
    case rest =>
     clear HC16
     try clear c3
     try clear c3b0
     try clear c3b1
     try clear c9
     try clear c9b0
     try clear c9b1
     try clear c15
     try clear c15b0
     try clear c15b1
     try clear hcz20_0
     try clear hcz20_1
     try clear hcz20_2
     try clear hfz20_0
     try clear hfz20_1
     try clear hfz20_2
     obtain ⟨kq, x32_15, rfl, HA, HJ15, BK214, BK215, HB⟩ := hcut
     cases kq with
     | zero => exact absurd HA.out (by simp [spec_l5Has.j0])
     | succ kj15 =>
      have H := HA.out
      clear HA
      simp only [spec_l5Has.j0] at H
      by_cases c28 : x32_15 = true
      ·subst c28
       have H1 : (some false) = some r := by rw [if_pos rfl] at H; exact H
       clear H
       have H := H1
       clear H1
       obtain rfl := Option.some.inj H
       go_wp2
       go_ret
       exact ⟨er_, B2_ HB.out GE214.out GE215.out⟩
      ·replace c28 := Bool.eq_false_iff.mpr c28
       subst c28
       have H1 : (spec_l5Has.l0 kj15 0 a0_0 a0_1 a0_2 l0_3 l0_4 a1_0 l1_1 l1_2) = some r := by rw [if_neg (show ¬ (false = true) by decide)] at H; exact H
       clear H
       have H := H1
       clear H1
       have H' := Aside0.mk H
       clear H
       go_wp2
       go_loopg [5] kj15 (fun kq v5 w' => ∃ (x5_2 : Int), v5 = .int .i64 x5_2 ∧ Aside0 (spec_l5Has.l0 kq x5_2 a0_0 a0_1 a0_2 l0_3 l0_4 a1_0 l1_1 l1_2 = some r) ∧ Aside0 (kq ≤ kj15) ∧ Aside0 (w'.heap[gb214]? = some (.cells #[.int .i64 a0_0, .int .i64 a0_1, .string a0_2, (.slice A0_3 l0_3.length c0_3), (.slice A0_4 l0_4.length c0_4)] 30 (0, 0))) ∧ Aside0 (w'.heap[gb215]? = some (.cells #[.int .i64 a1_0, (.slice A1_1 l1_1.length c1_1), (.slice A1_2 l1_2.length c1_2)] 44 (0, 0))) ∧ Aside0 (Below w.heap.size w w'))
       case atStart => exact ⟨(0), q_, H', ⟨Nat.le_refl _⟩, ⟨K_ BK214.out⟩, ⟨K_ BK215.out⟩, ⟨B2_ HB.out GE214.out GE215.out⟩⟩
       case round =>
        clear H'
        try clear c3
        try clear c3b0
        try clear c3b1
        try clear c9
        try clear c9b0
        try clear c9b1
        try clear c15
        try clear c15b0
        try clear c15b1
        try clear c28
        try clear hcz20_0
        try clear hcz20_1
        try clear hcz20_2
        try clear hfz20_0
        try clear hfz20_1
        try clear hfz20_2
        obtain ⟨x5_2, rfl, HA, HK2, BK214, BK215, HB⟩ := hrel
        cases gk with
        | zero => exact absurd HA.out (by simp [spec_l5Has.l0])
        | succ k2 =>
         have H := HA.out
         clear HA
         simp only [spec_l5Has.l0] at H
         by_cases c29 : x5_2 < (l0_4.length : Int)
         ·rw [if_pos c29] at H
          have c29b0 : decide (x5_2 < (l0_4.length : Int)) = true := decide_eq_true c29
          clear c29
          by_cases c30 : 0 ≤ x5_2
          ·rw [if_pos c30] at H
           have c30b0 : decide (0 ≤ x5_2) = true := decide_eq_true c30
           clear c30
           by_cases c31 : x5_2 < (l1_2.length : Int)
           ·rw [if_pos c31] at H
            have c31b0 : decide (x5_2 < (l1_2.length : Int)) = true := decide_eq_true c31
            clear c31
            replace H := Option.bind_eq_some_iff.mp H
            obtain ⟨t219, A320, H⟩ := H
            replace H : (if t219 = true then (spec_l5Has.l0 k2 (wrap64 (x5_2 + 1)) a0_0 a0_1 a0_2 l0_3 l0_4 a1_0 l1_1 l1_2) else (some false)) = some r := H
            have A32 := Aside0.mk A320
            clear A320
            by_cases c33 : t219 = true
            ·subst c33
             have H1 : (spec_l5Has.l0 k2 (wrap64 (x5_2 + 1)) a0_0 a0_1 a0_2 l0_3 l0_4 a1_0 l1_1 l1_2) = some r := by rw [if_pos rfl] at H; exact H
             clear H
             have H := H1
             clear H1
             have H' := Aside0.mk H
             clear H
             have hnb34 := NB214_215.out
             have hnc34 := NB215_214.out
             obtain ⟨hcz35_0, hcz35_1, hcz35_2, hcz35_3, hcz35_4, hfz35_0, hfz35_1, hfz35_2, hfz35_3, hfz35_4⟩ := box5_ BK214.out
             try go_wp2
             replace BK214 := Aside0.mk (blk_drew BK214.out)
             replace BK215 := Aside0.mk (blk_drew BK215.out)
             replace HB := Aside0.mk (below_drew1 HB.out)
             have p217 : 0 ≤ (x5_2 : Int) := de_
             have q217 : x5_2 < (l0_4.length : Int) := de_
             obtain ⟨ad217, A217_3, c217_3, A217_4, c217_4, e217, hx217_0, hx217_1, hx217_2, hx217_3, hx217_4, hl217_3, hi217_3, hl217_4, hi217_4⟩ := at_T30 HR0_4.out x5_2 p217 q217
             have hw217_4 := hx217_4
             have hw217_3 := hx217_3
             have hw217_2 := hx217_2
             have hw217_1 := hx217_1
             have hw217_0 := hx217_0
             cases e217
             replace hx217_0 := (HB.out.cell (World.block_lt_of_cell? w _ hx217_0)).trans hx217_0
             replace hx217_1 := (HB.out.cell (World.block_lt_of_cell? w _ hx217_1)).trans hx217_1
             replace hx217_2 := (HB.out.cell (World.block_lt_of_cell? w _ hx217_2)).trans hx217_2
             replace hx217_3 := (HB.out.cell (World.block_lt_of_cell? w _ hx217_3)).trans hx217_3
             replace hx217_4 := (HB.out.cell (World.block_lt_of_cell? w _ hx217_4)).trans hx217_4
             have HR217_3 := Aside0.mk hi217_3
             have HC217_3 := Aside0.mk hl217_3
             clear hi217_3 hl217_3
             have HR217_4 := Aside0.mk hi217_4
             have HC217_4 := Aside0.mk hl217_4
             clear hi217_4 hl217_4
             replace p217 := eq_true p217
             replace q217 := eq_true q217
             have p218 : 0 ≤ (x5_2 : Int) := de_
             have q218 : x5_2 < (l1_2.length : Int) := de_
             obtain ⟨ad218, A218_1, c218_1, A218_2, c218_2, e218, hx218_0, hx218_1, hx218_2, hl218_1, hi218_1, hl218_2, hi218_2⟩ := at_T44 HR1_2.out x5_2 p218 q218
             have hw218_2 := hx218_2
             have hw218_1 := hx218_1
             have hw218_0 := hx218_0
             cases e218
             replace hx218_0 := (HB.out.cell (World.block_lt_of_cell? w _ hx218_0)).trans hx218_0
             replace hx218_1 := (HB.out.cell (World.block_lt_of_cell? w _ hx218_1)).trans hx218_1
             replace hx218_2 := (HB.out.cell (World.block_lt_of_cell? w _ hx218_2)).trans hx218_2
             have HR218_1 := Aside0.mk hi218_1
             have HC218_1 := Aside0.mk hl218_1
             clear hi218_1 hl218_1
             have HR218_2 := Aside0.mk hi218_2
             have HC218_2 := Aside0.mk hl218_2
             clear hi218_2 hl218_2
             replace p218 := eq_true p218
             replace q218 := eq_true q218
             refine start_ (n := 12) (S := fun w' => w'.cell? ⟨gb214, 0, none⟩ = some (.int .i64 a0_0) ∧ w'.cell? ⟨gb214, 1, none⟩ = some (.int .i64 a0_1) ∧ w'.cell? ⟨gb214, 2, none⟩ = some (.string a0_2) ∧ w'.cell? ⟨gb214, 3, none⟩ = some (.slice A0_3 l0_3.length c0_3) ∧ w'.cell? ⟨gb214, 4, none⟩ = some (.slice (some ad217) l0_4.length c0_4) ∧ w'.cell? ⟨gb215, 0, none⟩ = some (.int .i64 a1_0) ∧ w'.cell? ⟨gb215, 1, none⟩ = some (.slice A1_1 l1_1.length c1_1) ∧ w'.cell? ⟨gb215, 2, none⟩ = some (.slice (some ad218) l1_2.length c1_2) ∧ w'.cell? (ad217.add ((x5_2).toNat * 5)) = some (.int .i64 ((rd_T30 l0_4 x5_2).f0)) ∧ w'.cell? ⟨(ad217.add ((x5_2).toNat * 5)).block, (ad217.add ((x5_2).toNat * 5)).off + 1, none⟩ = some (.int .i64 ((rd_T30 l0_4 x5_2).f1)) ∧ w'.cell? ⟨(ad217.add ((x5_2).toNat * 5)).block, (ad217.add ((x5_2).toNat * 5)).off + 2, none⟩ = some (.string ((rd_T30 l0_4 x5_2).f2)) ∧ w'.cell? ⟨(ad217.add ((x5_2).toNat * 5)).block, (ad217.add ((x5_2).toNat * 5)).off + 3, none⟩ = some (.slice A217_3 ((rd_T30 l0_4 x5_2).f3).length c217_3) ∧ w'.cell? ⟨(ad217.add ((x5_2).toNat * 5)).block, (ad217.add ((x5_2).toNat * 5)).off + 4, none⟩ = some (.slice A217_4 ((rd_T30 l0_4 x5_2).f4).length c217_4) ∧ w'.cell? (ad218.add ((x5_2).toNat * 3)) = some (.int .i64 ((rd_T44 l1_2 x5_2).f0)) ∧ w'.cell? ⟨(ad218.add ((x5_2).toNat * 3)).block, (ad218.add ((x5_2).toNat * 3)).off + 1, none⟩ = some (.slice A218_1 ((rd_T44 l1_2 x5_2).f1).length c218_1) ∧ w'.cell? ⟨(ad218.add ((x5_2).toNat * 3)).block, (ad218.add ((x5_2).toNat * 3)).off + 2, none⟩ = some (.slice A218_2 ((rd_T44 l1_2 x5_2).f2).length c218_2)) (ds := []) #[false, false, false, false, false, false, false, false, false, false, false, false] (by kernel_rfl) rfl rfl ⟨(blk_cell BK214.out 0).trans rfl, (blk_cell BK214.out 1).trans rfl, (blk_cell BK214.out 2).trans rfl, (blk_cell BK214.out 3).trans rfl, (blk_cell BK214.out 4).trans rfl, (blk_cell BK215.out 0).trans rfl, (blk_cell BK215.out 1).trans rfl, (blk_cell BK215.out 2).trans rfl, ((HB.out.cell (World.block_lt_of_cell? w _ hw217_0)).trans hw217_0), ((HB.out.cell (World.block_lt_of_cell? w _ hw217_1)).trans hw217_1), ((HB.out.cell (World.block_lt_of_cell? w _ hw217_2)).trans hw217_2), ((HB.out.cell (World.block_lt_of_cell? w _ hw217_3)).trans hw217_3), ((HB.out.cell (World.block_lt_of_cell? w _ hw217_4)).trans hw217_4), ((HB.out.cell (World.block_lt_of_cell? w _ hw218_0)).trans hw218_0), ((HB.out.cell (World.block_lt_of_cell? w _ hw218_1)).trans hw218_1), ((HB.out.cell (World.block_lt_of_cell? w _ hw218_2)).trans hw218_2)⟩ (fun hHeld => ?_); refine with_tabW spec_l5Has.tab12 spec_l5Has.bits12 (fun HT_ HW_ => ?_)
             generalize wr.drew = w36 at BK214 BK215 HB HR217_3 HR217_4 HR218_1 HR218_2 hx217_0 hx217_1 hx217_2 hx217_3 hx217_4 hx218_0 hx218_1 hx218_2 hHeld ⊢
             refine pure_ (i := 0) (N := some 40) (v := ?_) (a' := ?_) #[true, false, false, false, false, false, false, false, false, false, false, false] rfl rfl (any_of HT_.out (by kernel_rfl)) (fun _ _ _ h => h) (Or.inl ⟨by rfl, ?_⟩) ?_ ?_
             rotate_left
             ·intro w'
              go_simp
              with_reducible rfl
             rotate_left
             ·simp only [Act.put, List.setIfInBounds_toArray, List.set_cons_zero, List.set_cons_succ, i64_w, i32_w]
              rfl
             refine pure_ (i := 2) (N := some 42) (v := ?_) (a' := ?_) #[true, false, true, false, false, false, false, false, false, false, false, false] rfl rfl (any_of HT_.out (by kernel_rfl)) (fun _ _ _ h => h) (Or.inl ⟨by rfl, ?_⟩) ?_ ?_
             rotate_left
             ·intro w'
              go_simp
              with_reducible rfl
             rotate_left
             ·simp only [Act.put, List.setIfInBounds_toArray, List.set_cons_zero, List.set_cons_succ, i64_w, i32_w]
              rfl
             refine pure_ (i := 5) (N := some 45) (v := ?_) (a' := ?_) #[true, false, true, false, false, true, false, false, false, false, false, false] rfl rfl (any_of HT_.out (by kernel_rfl)) (fun _ _ _ h => h) (Or.inl ⟨by rfl, ?_⟩) ?_ ?_
             rotate_left
             ·intro w'
              go_simp
              with_reducible rfl
             rotate_left
             ·simp only [Act.put, List.setIfInBounds_toArray, List.set_cons_zero, List.set_cons_succ, i64_w, i32_w]
              rfl
             refine pure_ (i := 7) (N := some 47) (v := ?_) (a' := ?_) #[true, false, true, false, false, true, false, true, false, false, false, false] rfl rfl (any_of HT_.out (by kernel_rfl)) (fun _ _ _ h => h) (Or.inl ⟨by rfl, ?_⟩) ?_ ?_
             rotate_left
             ·intro w'
              go_simp
              with_reducible rfl
             rotate_left
             ·simp only [Act.put, List.setIfInBounds_toArray, List.set_cons_zero, List.set_cons_succ, i64_w, i32_w]
              rfl
             refine take_ (i := 1) (N := some 41) (v := ?_) (a' := ?_) #[true, true, true, false, false, true, false, true, false, false, false, false] rfl rfl (take_ofW HT_.out HW_.out (by kernel_rfl)) (fun _ _ _ h => h) (Or.inl ⟨by rfl, ?_⟩) hHeld ?_ ?_
             rotate_left
             ·rintro w' ⟨s0, s1, s2, s3, s4, s5, s6, s7, s8, s9, s10, s11, s12, s13, s14, s15⟩
              go_simp
              with_reducible rfl
             rotate_left
             ·simp only [Act.put, List.setIfInBounds_toArray, List.set_cons_zero, List.set_cons_succ, i64_w, i32_w]
              rfl
             refine pure_ (i := 3) (N := some 43) (v := ?_) (a' := ?_) #[true, true, true, true, false, true, false, true, false, false, false, false] rfl rfl (any_of HT_.out (by kernel_rfl)) (fun _ _ _ h => h) (Or.inl ⟨by rfl, ?_⟩) ?_ ?_
             rotate_left
             ·intro w'
              go_simp
              with_reducible rfl
             rotate_left
             ·simp only [Act.put, List.setIfInBounds_toArray, List.set_cons_zero, List.set_cons_succ, i64_w, i32_w]
              rfl
             refine take_ (i := 4) (N := some 44) (v := ?_) (a' := ?_) #[true, true, true, true, true, true, false, true, false, false, false, false] rfl rfl (take_ofW HT_.out HW_.out (by kernel_rfl)) (fun _ _ _ h => h) (Or.inl ⟨by rfl, ?_⟩) hHeld ?_ ?_
             rotate_left
             ·rintro w' ⟨s0, s1, s2, s3, s4, s5, s6, s7, s8, s9, s10, s11, s12, s13, s14, s15⟩
              go_simp
              with_reducible rfl
             rotate_left
             ·simp only [Act.put, List.setIfInBounds_toArray, List.set_cons_zero, List.set_cons_succ, i64_w, i32_w]
              rfl
             refine take_ (i := 6) (N := some 46) (v := ?_) (a' := ?_) #[true, true, true, true, true, true, true, true, false, false, false, false] rfl rfl (take_ofW HT_.out HW_.out (by kernel_rfl)) (fun _ _ _ h => h) (Or.inl ⟨by rfl, ?_⟩) hHeld ?_ ?_
             rotate_left
             ·rintro w' ⟨s0, s1, s2, s3, s4, s5, s6, s7, s8, s9, s10, s11, s12, s13, s14, s15⟩
              go_simp
              with_reducible rfl
             rotate_left
             ·simp only [Act.put, List.setIfInBounds_toArray, List.set_cons_zero, List.set_cons_succ, i64_w, i32_w]
              rfl
             refine pure_ (i := 8) (N := some 48) (v := ?_) (a' := ?_) #[true, true, true, true, true, true, true, true, true, false, false, false] rfl rfl (any_of HT_.out (by kernel_rfl)) (fun _ _ _ h => h) (Or.inl ⟨by rfl, ?_⟩) ?_ ?_
             rotate_left
             ·intro w'
              go_simp
              with_reducible rfl
             rotate_left
             ·simp only [Act.put, List.setIfInBounds_toArray, List.set_cons_zero, List.set_cons_succ, i64_w, i32_w]
              rfl
             refine take_ (i := 9) (N := some 49) (v := ?_) (a' := ?_) #[true, true, true, true, true, true, true, true, true, true, false, false] rfl rfl (take_ofW HT_.out HW_.out (by kernel_rfl)) (fun _ _ _ h => h) (Or.inl ⟨by rfl, ?_⟩) hHeld ?_ ?_
             rotate_left
             ·rintro w' ⟨s0, s1, s2, s3, s4, s5, s6, s7, s8, s9, s10, s11, s12, s13, s14, s15⟩
              go_simp
              with_reducible rfl
             rotate_left
             ·simp only [Act.put, List.setIfInBounds_toArray, List.set_cons_zero, List.set_cons_succ, i64_w, i32_w]
              rfl
             refine one_ (i := 10) (N := some 50) #[true, true, true, true, true, true, true, true, true, true, true, false] rfl rfl (one_of HT_.out (by kernel_rfl)) (by decide) (fun K hK => ?_)
             refine goes_ Try.func68 (by kernel_rfl) rfl #[.agg #[.int .i64 ((rd_T30 l0_4 x5_2).f0), .int .i64 ((rd_T30 l0_4 x5_2).f1), .string ((rd_T30 l0_4 x5_2).f2), .slice A217_3 ((rd_T30 l0_4 x5_2).f3).length c217_3, .slice A217_4 ((rd_T30 l0_4 x5_2).f4).length c217_4], .agg #[.int .i64 ((rd_T44 l1_2 x5_2).f0), .slice A218_1 ((rd_T44 l1_2 x5_2).f1).length c218_1, .slice A218_2 ((rd_T44 l1_2 x5_2).f2).length c218_2]] (by rfl) rfl rfl ma_ ?_
             with_reducible refine (ih k2 (by have := HJ15.out; have := HK2.out; omega) ((rd_T30 l0_4 x5_2).f0) ((rd_T30 l0_4 x5_2).f1) ((rd_T30 l0_4 x5_2).f2) _ _ ((rd_T30 l0_4 x5_2).f3) _ _ ((rd_T30 l0_4 x5_2).f4) ((rd_T44 l1_2 x5_2).f0) _ _ ((rd_T44 l1_2 x5_2).f1) _ _ ((rd_T44 l1_2 x5_2).f2) true _ ?side1 ?side2 ?side3 ?side4 ?side5 ?side6 ?side7 ?side8 A32.out).mono ?_
             (case side1 => exact C_ (Kd.C_below HR217_3.out HB.out))
             (case side2 => exact HC217_3.out)
             (case side3 => exact C_ (Kd.C_below HR217_4.out HB.out))
             (case side4 => exact HC217_4.out)
             (case side5 => exact C_ (Kd.C_below HR218_1.out HB.out))
             (case side6 => exact HC218_1.out)
             (case side7 => exact C_ (Kd.C_below HR218_2.out HB.out))
             (case side8 => exact HC218_2.out)
             rintro e w37 ⟨rfl, hb⟩
             refine ⟨_, rfl, ?_⟩
             replace BK214 := Aside0.mk (blk_below (K_ BK214.out) hb)
             replace BK215 := Aside0.mk (blk_below (K_ BK215.out) hb)
             replace HB := Aside0.mk (below_step (B2_ HB.out GE214.out GE215.out) hb)
             (try clear hb)
             (try clear hb2)
             (try clear hk)
             (try clear hi)
             refine hK.out _ _ ⟨(blk_cell BK214.out 0).trans rfl, (blk_cell BK214.out 1).trans rfl, (blk_cell BK214.out 2).trans rfl, (blk_cell BK214.out 3).trans rfl, (blk_cell BK214.out 4).trans rfl, (blk_cell BK215.out 0).trans rfl, (blk_cell BK215.out 1).trans rfl, (blk_cell BK215.out 2).trans rfl, ((HB.out.cell (World.block_lt_of_cell? w _ hw217_0)).trans hw217_0), ((HB.out.cell (World.block_lt_of_cell? w _ hw217_1)).trans hw217_1), ((HB.out.cell (World.block_lt_of_cell? w _ hw217_2)).trans hw217_2), ((HB.out.cell (World.block_lt_of_cell? w _ hw217_3)).trans hw217_3), ((HB.out.cell (World.block_lt_of_cell? w _ hw217_4)).trans hw217_4), ((HB.out.cell (World.block_lt_of_cell? w _ hw218_0)).trans hw218_0), ((HB.out.cell (World.block_lt_of_cell? w _ hw218_1)).trans hw218_1), ((HB.out.cell (World.block_lt_of_cell? w _ hw218_2)).trans hw218_2)⟩ (fun hHeld => ?_)
             clear hK K
             refine norm_ (a' := ?_) ?_ ?_
             rotate_left
             ·show Act.put _ (some 50) _ = _
              simp only [Act.put, List.setIfInBounds_toArray, List.set_cons_zero, List.set_cons_succ, i64_w, i32_w]
              rfl
             refine pure_ (i := 11) (N := some 51) (v := ?_) (a' := ?_) #[true, true, true, true, true, true, true, true, true, true, true, true] rfl rfl (any_of HT_.out (by kernel_rfl)) (fun _ _ _ h => h) (Or.inl ⟨by rfl, ?_⟩) ?_ ?_
             rotate_left
             ·intro w'
              go_simp
              with_reducible rfl
             rotate_left
             ·simp only [Act.put, List.setIfInBounds_toArray, List.set_cons_zero, List.set_cons_succ, i64_w, i32_w]
              rfl
             refine done_ (done_of HT_.out (by kernel_rfl)) ?_
             try go_wp2
             go_roundg k2
             case measure => have := HJ15.out; have := HK2.out; omega
             case rel => exact ⟨(wrap64 (x5_2 + 1)), q_, H', ⟨by have := HJ15.out; have := HK2.out; omega⟩, ⟨K_ BK214.out⟩, ⟨K_ BK215.out⟩, ⟨B2_ HB.out GE214.out GE215.out⟩⟩
            ·replace c33 := Bool.eq_false_iff.mpr c33
             subst c33
             have H1 : (some false) = some r := by rw [if_neg (show ¬ (false = true) by decide)] at H; exact H
             clear H
             have H := H1
             clear H1
             obtain rfl := Option.some.inj H
             have hnb38 := NB214_215.out
             have hnc38 := NB215_214.out
             obtain ⟨hcz39_0, hcz39_1, hcz39_2, hcz39_3, hcz39_4, hfz39_0, hfz39_1, hfz39_2, hfz39_3, hfz39_4⟩ := box5_ BK214.out
             try go_wp2
             replace BK214 := Aside0.mk (blk_drew BK214.out)
             replace BK215 := Aside0.mk (blk_drew BK215.out)
             replace HB := Aside0.mk (below_drew1 HB.out)
             have p217 : 0 ≤ (x5_2 : Int) := de_
             have q217 : x5_2 < (l0_4.length : Int) := de_
             obtain ⟨ad217, A217_3, c217_3, A217_4, c217_4, e217, hx217_0, hx217_1, hx217_2, hx217_3, hx217_4, hl217_3, hi217_3, hl217_4, hi217_4⟩ := at_T30 HR0_4.out x5_2 p217 q217
             have hw217_4 := hx217_4
             have hw217_3 := hx217_3
             have hw217_2 := hx217_2
             have hw217_1 := hx217_1
             have hw217_0 := hx217_0
             cases e217
             replace hx217_0 := (HB.out.cell (World.block_lt_of_cell? w _ hx217_0)).trans hx217_0
             replace hx217_1 := (HB.out.cell (World.block_lt_of_cell? w _ hx217_1)).trans hx217_1
             replace hx217_2 := (HB.out.cell (World.block_lt_of_cell? w _ hx217_2)).trans hx217_2
             replace hx217_3 := (HB.out.cell (World.block_lt_of_cell? w _ hx217_3)).trans hx217_3
             replace hx217_4 := (HB.out.cell (World.block_lt_of_cell? w _ hx217_4)).trans hx217_4
             have HR217_3 := Aside0.mk hi217_3
             have HC217_3 := Aside0.mk hl217_3
             clear hi217_3 hl217_3
             have HR217_4 := Aside0.mk hi217_4
             have HC217_4 := Aside0.mk hl217_4
             clear hi217_4 hl217_4
             replace p217 := eq_true p217
             replace q217 := eq_true q217
             have p218 : 0 ≤ (x5_2 : Int) := de_
             have q218 : x5_2 < (l1_2.length : Int) := de_
             obtain ⟨ad218, A218_1, c218_1, A218_2, c218_2, e218, hx218_0, hx218_1, hx218_2, hl218_1, hi218_1, hl218_2, hi218_2⟩ := at_T44 HR1_2.out x5_2 p218 q218
             have hw218_2 := hx218_2
             have hw218_1 := hx218_1
             have hw218_0 := hx218_0
             cases e218
             replace hx218_0 := (HB.out.cell (World.block_lt_of_cell? w _ hx218_0)).trans hx218_0
             replace hx218_1 := (HB.out.cell (World.block_lt_of_cell? w _ hx218_1)).trans hx218_1
             replace hx218_2 := (HB.out.cell (World.block_lt_of_cell? w _ hx218_2)).trans hx218_2
             have HR218_1 := Aside0.mk hi218_1
             have HC218_1 := Aside0.mk hl218_1
             clear hi218_1 hl218_1
             have HR218_2 := Aside0.mk hi218_2
             have HC218_2 := Aside0.mk hl218_2
             clear hi218_2 hl218_2
             replace p218 := eq_true p218
             replace q218 := eq_true q218
             refine start_ (n := 12) (S := fun w' => w'.cell? ⟨gb214, 0, none⟩ = some (.int .i64 a0_0) ∧ w'.cell? ⟨gb214, 1, none⟩ = some (.int .i64 a0_1) ∧ w'.cell? ⟨gb214, 2, none⟩ = some (.string a0_2) ∧ w'.cell? ⟨gb214, 3, none⟩ = some (.slice A0_3 l0_3.length c0_3) ∧ w'.cell? ⟨gb214, 4, none⟩ = some (.slice (some ad217) l0_4.length c0_4) ∧ w'.cell? ⟨gb215, 0, none⟩ = some (.int .i64 a1_0) ∧ w'.cell? ⟨gb215, 1, none⟩ = some (.slice A1_1 l1_1.length c1_1) ∧ w'.cell? ⟨gb215, 2, none⟩ = some (.slice (some ad218) l1_2.length c1_2) ∧ w'.cell? (ad217.add ((x5_2).toNat * 5)) = some (.int .i64 ((rd_T30 l0_4 x5_2).f0)) ∧ w'.cell? ⟨(ad217.add ((x5_2).toNat * 5)).block, (ad217.add ((x5_2).toNat * 5)).off + 1, none⟩ = some (.int .i64 ((rd_T30 l0_4 x5_2).f1)) ∧ w'.cell? ⟨(ad217.add ((x5_2).toNat * 5)).block, (ad217.add ((x5_2).toNat * 5)).off + 2, none⟩ = some (.string ((rd_T30 l0_4 x5_2).f2)) ∧ w'.cell? ⟨(ad217.add ((x5_2).toNat * 5)).block, (ad217.add ((x5_2).toNat * 5)).off + 3, none⟩ = some (.slice A217_3 ((rd_T30 l0_4 x5_2).f3).length c217_3) ∧ w'.cell? ⟨(ad217.add ((x5_2).toNat * 5)).block, (ad217.add ((x5_2).toNat * 5)).off + 4, none⟩ = some (.slice A217_4 ((rd_T30 l0_4 x5_2).f4).length c217_4) ∧ w'.cell? (ad218.add ((x5_2).toNat * 3)) = some (.int .i64 ((rd_T44 l1_2 x5_2).f0)) ∧ w'.cell? ⟨(ad218.add ((x5_2).toNat * 3)).block, (ad218.add ((x5_2).toNat * 3)).off + 1, none⟩ = some (.slice A218_1 ((rd_T44 l1_2 x5_2).f1).length c218_1) ∧ w'.cell? ⟨(ad218.add ((x5_2).toNat * 3)).block, (ad218.add ((x5_2).toNat * 3)).off + 2, none⟩ = some (.slice A218_2 ((rd_T44 l1_2 x5_2).f2).length c218_2)) (ds := []) #[false, false, false, false, false, false, false, false, false, false, false, false] (by kernel_rfl) rfl rfl ⟨(blk_cell BK214.out 0).trans rfl, (blk_cell BK214.out 1).trans rfl, (blk_cell BK214.out 2).trans rfl, (blk_cell BK214.out 3).trans rfl, (blk_cell BK214.out 4).trans rfl, (blk_cell BK215.out 0).trans rfl, (blk_cell BK215.out 1).trans rfl, (blk_cell BK215.out 2).trans rfl, ((HB.out.cell (World.block_lt_of_cell? w _ hw217_0)).trans hw217_0), ((HB.out.cell (World.block_lt_of_cell? w _ hw217_1)).trans hw217_1), ((HB.out.cell (World.block_lt_of_cell? w _ hw217_2)).trans hw217_2), ((HB.out.cell (World.block_lt_of_cell? w _ hw217_3)).trans hw217_3), ((HB.out.cell (World.block_lt_of_cell? w _ hw217_4)).trans hw217_4), ((HB.out.cell (World.block_lt_of_cell? w _ hw218_0)).trans hw218_0), ((HB.out.cell (World.block_lt_of_cell? w _ hw218_1)).trans hw218_1), ((HB.out.cell (World.block_lt_of_cell? w _ hw218_2)).trans hw218_2)⟩ (fun hHeld => ?_); refine with_tabW spec_l5Has.tab12 spec_l5Has.bits12 (fun HT_ HW_ => ?_)
             generalize wr.drew = w40 at BK214 BK215 HB HR217_3 HR217_4 HR218_1 HR218_2 hx217_0 hx217_1 hx217_2 hx217_3 hx217_4 hx218_0 hx218_1 hx218_2 hHeld ⊢
             refine pure_ (i := 0) (N := some 40) (v := ?_) (a' := ?_) #[true, false, false, false, false, false, false, false, false, false, false, false] rfl rfl (any_of HT_.out (by kernel_rfl)) (fun _ _ _ h => h) (Or.inl ⟨by rfl, ?_⟩) ?_ ?_
             rotate_left
             ·intro w'
              go_simp
              with_reducible rfl
             rotate_left
             ·simp only [Act.put, List.setIfInBounds_toArray, List.set_cons_zero, List.set_cons_succ, i64_w, i32_w]
              rfl
             refine pure_ (i := 2) (N := some 42) (v := ?_) (a' := ?_) #[true, false, true, false, false, false, false, false, false, false, false, false] rfl rfl (any_of HT_.out (by kernel_rfl)) (fun _ _ _ h => h) (Or.inl ⟨by rfl, ?_⟩) ?_ ?_
             rotate_left
             ·intro w'
              go_simp
              with_reducible rfl
             rotate_left
             ·simp only [Act.put, List.setIfInBounds_toArray, List.set_cons_zero, List.set_cons_succ, i64_w, i32_w]
              rfl
             refine pure_ (i := 5) (N := some 45) (v := ?_) (a' := ?_) #[true, false, true, false, false, true, false, false, false, false, false, false] rfl rfl (any_of HT_.out (by kernel_rfl)) (fun _ _ _ h => h) (Or.inl ⟨by rfl, ?_⟩) ?_ ?_
             rotate_left
             ·intro w'
              go_simp
              with_reducible rfl
             rotate_left
             ·simp only [Act.put, List.setIfInBounds_toArray, List.set_cons_zero, List.set_cons_succ, i64_w, i32_w]
              rfl
             refine pure_ (i := 7) (N := some 47) (v := ?_) (a' := ?_) #[true, false, true, false, false, true, false, true, false, false, false, false] rfl rfl (any_of HT_.out (by kernel_rfl)) (fun _ _ _ h => h) (Or.inl ⟨by rfl, ?_⟩) ?_ ?_
             rotate_left
             ·intro w'
              go_simp
              with_reducible rfl
             rotate_left
             ·simp only [Act.put, List.setIfInBounds_toArray, List.set_cons_zero, List.set_cons_succ, i64_w, i32_w]
              rfl
             refine take_ (i := 1) (N := some 41) (v := ?_) (a' := ?_) #[true, true, true, false, false, true, false, true, false, false, false, false] rfl rfl (take_ofW HT_.out HW_.out (by kernel_rfl)) (fun _ _ _ h => h) (Or.inl ⟨by rfl, ?_⟩) hHeld ?_ ?_
             rotate_left
             ·rintro w' ⟨s0, s1, s2, s3, s4, s5, s6, s7, s8, s9, s10, s11, s12, s13, s14, s15⟩
              go_simp
              with_reducible rfl
             rotate_left
             ·simp only [Act.put, List.setIfInBounds_toArray, List.set_cons_zero, List.set_cons_succ, i64_w, i32_w]
              rfl
             refine pure_ (i := 3) (N := some 43) (v := ?_) (a' := ?_) #[true, true, true, true, false, true, false, true, false, false, false, false] rfl rfl (any_of HT_.out (by kernel_rfl)) (fun _ _ _ h => h) (Or.inl ⟨by rfl, ?_⟩) ?_ ?_
             rotate_left
             ·intro w'
              go_simp
              with_reducible rfl
             rotate_left
             ·simp only [Act.put, List.setIfInBounds_toArray, List.set_cons_zero, List.set_cons_succ, i64_w, i32_w]
              rfl
             refine take_ (i := 4) (N := some 44) (v := ?_) (a' := ?_) #[true, true, true, true, true, true, false, true, false, false, false, false] rfl rfl (take_ofW HT_.out HW_.out (by kernel_rfl)) (fun _ _ _ h => h) (Or.inl ⟨by rfl, ?_⟩) hHeld ?_ ?_
             rotate_left
             ·rintro w' ⟨s0, s1, s2, s3, s4, s5, s6, s7, s8, s9, s10, s11, s12, s13, s14, s15⟩
              go_simp
              with_reducible rfl
             rotate_left
             ·simp only [Act.put, List.setIfInBounds_toArray, List.set_cons_zero, List.set_cons_succ, i64_w, i32_w]
              rfl
             refine take_ (i := 6) (N := some 46) (v := ?_) (a' := ?_) #[true, true, true, true, true, true, true, true, false, false, false, false] rfl rfl (take_ofW HT_.out HW_.out (by kernel_rfl)) (fun _ _ _ h => h) (Or.inl ⟨by rfl, ?_⟩) hHeld ?_ ?_
             rotate_left
             ·rintro w' ⟨s0, s1, s2, s3, s4, s5, s6, s7, s8, s9, s10, s11, s12, s13, s14, s15⟩
              go_simp
              with_reducible rfl
             rotate_left
             ·simp only [Act.put, List.setIfInBounds_toArray, List.set_cons_zero, List.set_cons_succ, i64_w, i32_w]
              rfl
             refine pure_ (i := 8) (N := some 48) (v := ?_) (a' := ?_) #[true, true, true, true, true, true, true, true, true, false, false, false] rfl rfl (any_of HT_.out (by kernel_rfl)) (fun _ _ _ h => h) (Or.inl ⟨by rfl, ?_⟩) ?_ ?_
             rotate_left
             ·intro w'
              go_simp
              with_reducible rfl
             rotate_left
             ·simp only [Act.put, List.setIfInBounds_toArray, List.set_cons_zero, List.set_cons_succ, i64_w, i32_w]
              rfl
             refine take_ (i := 9) (N := some 49) (v := ?_) (a' := ?_) #[true, true, true, true, true, true, true, true, true, true, false, false] rfl rfl (take_ofW HT_.out HW_.out (by kernel_rfl)) (fun _ _ _ h => h) (Or.inl ⟨by rfl, ?_⟩) hHeld ?_ ?_
             rotate_left
             ·rintro w' ⟨s0, s1, s2, s3, s4, s5, s6, s7, s8, s9, s10, s11, s12, s13, s14, s15⟩
              go_simp
              with_reducible rfl
             rotate_left
             ·simp only [Act.put, List.setIfInBounds_toArray, List.set_cons_zero, List.set_cons_succ, i64_w, i32_w]
              rfl
             refine one_ (i := 10) (N := some 50) #[true, true, true, true, true, true, true, true, true, true, true, false] rfl rfl (one_of HT_.out (by kernel_rfl)) (by decide) (fun K hK => ?_)
             refine goes_ Try.func68 (by kernel_rfl) rfl #[.agg #[.int .i64 ((rd_T30 l0_4 x5_2).f0), .int .i64 ((rd_T30 l0_4 x5_2).f1), .string ((rd_T30 l0_4 x5_2).f2), .slice A217_3 ((rd_T30 l0_4 x5_2).f3).length c217_3, .slice A217_4 ((rd_T30 l0_4 x5_2).f4).length c217_4], .agg #[.int .i64 ((rd_T44 l1_2 x5_2).f0), .slice A218_1 ((rd_T44 l1_2 x5_2).f1).length c218_1, .slice A218_2 ((rd_T44 l1_2 x5_2).f2).length c218_2]] (by rfl) rfl rfl ma_ ?_
             with_reducible refine (ih k2 (by have := HJ15.out; have := HK2.out; omega) ((rd_T30 l0_4 x5_2).f0) ((rd_T30 l0_4 x5_2).f1) ((rd_T30 l0_4 x5_2).f2) _ _ ((rd_T30 l0_4 x5_2).f3) _ _ ((rd_T30 l0_4 x5_2).f4) ((rd_T44 l1_2 x5_2).f0) _ _ ((rd_T44 l1_2 x5_2).f1) _ _ ((rd_T44 l1_2 x5_2).f2) false _ ?side1 ?side2 ?side3 ?side4 ?side5 ?side6 ?side7 ?side8 A32.out).mono ?_
             (case side1 => exact C_ (Kd.C_below HR217_3.out HB.out))
             (case side2 => exact HC217_3.out)
             (case side3 => exact C_ (Kd.C_below HR217_4.out HB.out))
             (case side4 => exact HC217_4.out)
             (case side5 => exact C_ (Kd.C_below HR218_1.out HB.out))
             (case side6 => exact HC218_1.out)
             (case side7 => exact C_ (Kd.C_below HR218_2.out HB.out))
             (case side8 => exact HC218_2.out)
             rintro e w41 ⟨rfl, hb⟩
             refine ⟨_, rfl, ?_⟩
             replace BK214 := Aside0.mk (blk_below (K_ BK214.out) hb)
             replace BK215 := Aside0.mk (blk_below (K_ BK215.out) hb)
             replace HB := Aside0.mk (below_step (B2_ HB.out GE214.out GE215.out) hb)
             (try clear hb)
             (try clear hb2)
             (try clear hk)
             (try clear hi)
             refine hK.out _ _ ⟨(blk_cell BK214.out 0).trans rfl, (blk_cell BK214.out 1).trans rfl, (blk_cell BK214.out 2).trans rfl, (blk_cell BK214.out 3).trans rfl, (blk_cell BK214.out 4).trans rfl, (blk_cell BK215.out 0).trans rfl, (blk_cell BK215.out 1).trans rfl, (blk_cell BK215.out 2).trans rfl, ((HB.out.cell (World.block_lt_of_cell? w _ hw217_0)).trans hw217_0), ((HB.out.cell (World.block_lt_of_cell? w _ hw217_1)).trans hw217_1), ((HB.out.cell (World.block_lt_of_cell? w _ hw217_2)).trans hw217_2), ((HB.out.cell (World.block_lt_of_cell? w _ hw217_3)).trans hw217_3), ((HB.out.cell (World.block_lt_of_cell? w _ hw217_4)).trans hw217_4), ((HB.out.cell (World.block_lt_of_cell? w _ hw218_0)).trans hw218_0), ((HB.out.cell (World.block_lt_of_cell? w _ hw218_1)).trans hw218_1), ((HB.out.cell (World.block_lt_of_cell? w _ hw218_2)).trans hw218_2)⟩ (fun hHeld => ?_)
             clear hK K
             refine norm_ (a' := ?_) ?_ ?_
             rotate_left
             ·show Act.put _ (some 50) _ = _
              simp only [Act.put, List.setIfInBounds_toArray, List.set_cons_zero, List.set_cons_succ, i64_w, i32_w]
              rfl
             refine pure_ (i := 11) (N := some 51) (v := ?_) (a' := ?_) #[true, true, true, true, true, true, true, true, true, true, true, true] rfl rfl (any_of HT_.out (by kernel_rfl)) (fun _ _ _ h => h) (Or.inl ⟨by rfl, ?_⟩) ?_ ?_
             rotate_left
             ·intro w'
              go_simp
              with_reducible rfl
             rotate_left
             ·simp only [Act.put, List.setIfInBounds_toArray, List.set_cons_zero, List.set_cons_succ, i64_w, i32_w]
              rfl
             refine done_ (done_of HT_.out (by kernel_rfl)) ?_
             try go_wp2
             go_ret
             exact ⟨er_, B2_ HB.out GE214.out GE215.out⟩
           ·rw [if_neg c31] at H
            exact absurd H (by simp)
          ·rw [if_neg c30] at H
           exact absurd H (by simp)
         ·rw [if_neg c29] at H
          have c29b0 : decide (x5_2 < (l0_4.length : Int)) = false := decide_eq_false c29
          clear c29
          obtain rfl := Option.some.inj H
          have hnb42 := NB214_215.out
          have hnc42 := NB215_214.out
          obtain ⟨hcz43_0, hcz43_1, hcz43_2, hcz43_3, hcz43_4, hfz43_0, hfz43_1, hfz43_2, hfz43_3, hfz43_4⟩ := box5_ BK214.out
          go_wp2
          go_ret
          exact ⟨er_, B2_ HB.out GE214.out GE215.out⟩
   ·rw [if_neg c15] at H
    have c15b0 : (a1_0 == 3) = false := beq_eq_false_iff_ne.mpr c15
    have c15b1 : (a1_0 != 3) = true := bne_iff_ne.mpr c15
    by_cases c44 : a1_0 = 4
    ·rw [if_pos c44] at H
     have c44b0 : (a1_0 == 4) = true := beq_iff_eq.mpr c44
     have c44b1 : (a1_0 != 4) = false := bne_eq_false_iff_eq.mpr c44
     clear c44
     replace H := Option.bind_eq_some_iff.mp H
     obtain ⟨t220, A450, H⟩ := H
     replace H : (if a0_0 = 4 then (if t220 ≥ 0 then (if 0 < (l0_4.length : Int) then (if 0 ≤ t220 then (if t220 < (l1_2.length : Int) then ((spec_l5Has.f k ((rd_T30 l0_4 0).f0) ((rd_T30 l0_4 0).f1) ((rd_T30 l0_4 0).f2) ((rd_T30 l0_4 0).f3) ((rd_T30 l0_4 0).f4) ((rd_T44 l1_2 t220).f0) ((rd_T44 l1_2 t220).f1) ((rd_T44 l1_2 t220).f2)).bind fun t223 => (some t223)) else (none)) else (none)) else (none)) else (some false)) else (some false)) = some r := H
     have A45 := Aside0.mk A450
     clear A450
     by_cases c46 : a0_0 = 4
     ·rw [if_pos c46] at H
      have c46b0 : (a0_0 == 4) = true := beq_iff_eq.mpr c46
      have c46b1 : (a0_0 != 4) = false := bne_eq_false_iff_eq.mpr c46
      clear c46
      by_cases c47 : t220 ≥ 0
      ·rw [if_pos c47] at H
       have c47b0 : decide (0 ≤ t220) = true := decide_eq_true c47
       clear c47
       by_cases c48 : 0 < (l0_4.length : Int)
       ·rw [if_pos c48] at H
        have c48b0 : decide (0 < (l0_4.length : Int)) = true := decide_eq_true c48
        have c48b1 : decide (0 < l0_4.length) = true := decide_eq_true (by omega)
        clear c48
        by_cases c49 : 0 ≤ t220
        ·rw [if_pos c49] at H
         have c49b0 : decide (0 ≤ t220) = true := decide_eq_true c49
         clear c49
         by_cases c50 : t220 < (l1_2.length : Int)
         ·rw [if_pos c50] at H
          have c50b0 : decide (t220 < (l1_2.length : Int)) = true := decide_eq_true c50
          clear c50
          replace H := Option.bind_eq_some_iff.mp H
          obtain ⟨t223, A510, H⟩ := H
          replace H : (some t223) = some r := H
          have A51 := Aside0.mk A510
          clear A510
          obtain rfl := Option.some.inj H
          go_enter Try.func68, Try.ntmps68
          try go_wp2_with (first | ((with_reducible refine gate_dst (N := 2) rfl ?_); refine box_event ?hg (N := 2) ?hd (cs := #[.int .i64 a0_0, .int .i64 a0_1, .string a0_2, .slice A0_3 l0_3.length c0_3, .slice A0_4 l0_4.length c0_4]) (t := 30) ?hr ?_; (case hd => rfl); (case hg => rfl); (case hr => first | (go_simp; done) | (go_simp; rfl)); intro gb214 hg w52 hbox hb; have BK214 := Aside0.mk (hbox); have GW214 := Aside0.mk ((by rw [hg]; exact (below_size (B0_ HB.out)) : w.heap.size ≤ gb214)); have GE214 := Aside0.mk ((by rw [hg]; exact (below_size (B0_ HB.out)) : w.heap.size ≤ gb214)); replace HB := Aside0.mk (below_step (B0_ HB.out) hb); clear hb hbox hg) | ((with_reducible refine gate_dst (N := 3) rfl ?_); refine box_event ?hg (N := 3) ?hd (cs := #[.int .i64 a1_0, .slice A1_1 l1_1.length c1_1, .slice A1_2 l1_2.length c1_2]) (t := 44) ?hr ?_; (case hd => rfl); (case hg => rfl); (case hr => first | (go_simp; done) | (go_simp; rfl)); intro gb215 hg w53 hbox hb; have BK215 := Aside0.mk (hbox); have GW215 := Aside0.mk ((by rw [hg]; exact (below_size (B1_ HB.out GE214.out)) : w.heap.size ≤ gb215)); have GE215 := Aside0.mk ((by rw [hg]; exact (below_size (B1_ HB.out GE214.out)) : w.heap.size ≤ gb215)); replace HB := Aside0.mk (below_step (B1_ HB.out GE214.out) hb); have NB214_215 := Aside0.mk ((by rw [hg]; exact Nat.ne_of_lt (blk_lt (K_ BK214.out)) : gb214 ≠ gb215)); have NB215_214 := Aside0.mk ((by rw [hg]; exact Nat.ne_of_gt (blk_lt (K_ BK214.out)) : gb215 ≠ gb214)); replace BK214 := Aside0.mk (blk_below (K_ BK214.out) hb); clear hb hbox hg; have hnb54 := NB215_214.out; have hnc54 := NB214_215.out; obtain ⟨hcz55_0, hcz55_1, hcz55_2, hfz55_0, hfz55_1, hfz55_2⟩ := box3_ BK215.out; obtain ⟨hcz56_0, hcz56_1, hcz56_2, hcz56_3, hcz56_4, hfz56_0, hfz56_1, hfz56_2, hfz56_3, hfz56_4⟩ := box5_ BK214.out) | ((with_reducible refine gate_callee (f := 100) rfl ?_); refine goesL_ (some 58) rfl rfl Try.func100 (by kernel_rfl) rfl #[.slice A1_1 l1_1.length c1_1, .string a0_2] rfl ma_ ?_; (with_reducible refine (spec_IndexOf.calls k _ _ l1_1 a0_2 t220 _ ?side1 ?side2 A45.out).mono ?_); (case side1 => exact C_ (Kd.C_below HR1_1.out HB.out)); (case side2 => exact HC1_1.out); rintro e w' ⟨rfl, ⟨nd, rfl⟩⟩; refine ⟨_, rfl, ?_⟩))
          (try (rw [drewN_self w53]; generalize hq_ : World.drewN w53 _ = w53; have n0_ : Aside0 (w53.heap[gb214]? = some (.cells #[.int .i64 a0_0, .int .i64 a0_1, .string a0_2, .slice A0_3 l0_3.length c0_3, .slice A0_4 l0_4.length c0_4] 30 (0, 0))) := ⟨by rw [← hq_]; exact (K_ BK214.out)⟩; have n1_ : Aside0 (w53.heap[gb215]? = some (.cells #[.int .i64 a1_0, .slice A1_1 l1_1.length c1_1, .slice A1_2 l1_2.length c1_2] 44 (0, 0))) := ⟨by rw [← hq_]; exact (K_ BK215.out)⟩; have n2_ : Aside0 (Below w.heap.size w w53) := ⟨by rw [← hq_]; exact (B2_ HB.out GE214.out GE215.out)⟩; clear BK214 BK215 HB hq_; have BK214 := n0_; have BK215 := n1_; have HB := n2_; clear n0_ n1_ n2_))
          replace BK214 := Aside0.mk (blk_drew BK214.out)
          replace BK215 := Aside0.mk (blk_drew BK215.out)
          replace HB := Aside0.mk (below_drew1 HB.out)
          have p221 : 0 ≤ (0 : Int) := (by omega)
          have q221 : 0 < (l0_4.length : Int) := de_
          obtain ⟨ad221, A221_3, c221_3, A221_4, c221_4, e221, hx221_0, hx221_1, hx221_2, hx221_3, hx221_4, hl221_3, hi221_3, hl221_4, hi221_4⟩ := at_T30 HR0_4.out 0 p221 q221
          have hw221_4 := hx221_4
          (try rw [show ((0 : Int)).toNat = 0 from rfl] at hw221_4)
          (try rw [show 0 * 5 = 0 from rfl] at hw221_4)
          (try rw [Addr.add_zero'] at hw221_4)
          have hw221_3 := hx221_3
          (try rw [show ((0 : Int)).toNat = 0 from rfl] at hw221_3)
          (try rw [show 0 * 5 = 0 from rfl] at hw221_3)
          (try rw [Addr.add_zero'] at hw221_3)
          have hw221_2 := hx221_2
          (try rw [show ((0 : Int)).toNat = 0 from rfl] at hw221_2)
          (try rw [show 0 * 5 = 0 from rfl] at hw221_2)
          (try rw [Addr.add_zero'] at hw221_2)
          have hw221_1 := hx221_1
          (try rw [show ((0 : Int)).toNat = 0 from rfl] at hw221_1)
          (try rw [show 0 * 5 = 0 from rfl] at hw221_1)
          (try rw [Addr.add_zero'] at hw221_1)
          have hw221_0 := hx221_0
          (try rw [show ((0 : Int)).toNat = 0 from rfl] at hw221_0)
          (try rw [show 0 * 5 = 0 from rfl] at hw221_0)
          (try rw [Addr.add_zero'] at hw221_0)
          cases e221
          have qi221 : (0 < l0_4.length) = True := eq_true (by omega)
          (try rw [show ((0 : Int)).toNat = 0 from rfl] at hx221_0)
          (try rw [show 0 * 5 = 0 from rfl] at hx221_0)
          (try rw [Addr.add_zero'] at hx221_0)
          (try rw [show ((0 : Int)).toNat = 0 from rfl] at hx221_1)
          (try rw [show 0 * 5 = 0 from rfl] at hx221_1)
          (try rw [Addr.add_zero'] at hx221_1)
          (try rw [show ((0 : Int)).toNat = 0 from rfl] at hx221_2)
          (try rw [show 0 * 5 = 0 from rfl] at hx221_2)
          (try rw [Addr.add_zero'] at hx221_2)
          (try rw [show ((0 : Int)).toNat = 0 from rfl] at hx221_3)
          (try rw [show 0 * 5 = 0 from rfl] at hx221_3)
          (try rw [Addr.add_zero'] at hx221_3)
          (try rw [show ((0 : Int)).toNat = 0 from rfl] at hx221_4)
          (try rw [show 0 * 5 = 0 from rfl] at hx221_4)
          (try rw [Addr.add_zero'] at hx221_4)
          replace hx221_0 := (HB.out.cell (World.block_lt_of_cell? w _ hx221_0)).trans hx221_0
          replace hx221_1 := (HB.out.cell (World.block_lt_of_cell? w _ hx221_1)).trans hx221_1
          replace hx221_2 := (HB.out.cell (World.block_lt_of_cell? w _ hx221_2)).trans hx221_2
          replace hx221_3 := (HB.out.cell (World.block_lt_of_cell? w _ hx221_3)).trans hx221_3
          replace hx221_4 := (HB.out.cell (World.block_lt_of_cell? w _ hx221_4)).trans hx221_4
          have HR221_3 := Aside0.mk hi221_3
          have HC221_3 := Aside0.mk hl221_3
          clear hi221_3 hl221_3
          have HR221_4 := Aside0.mk hi221_4
          have HC221_4 := Aside0.mk hl221_4
          clear hi221_4 hl221_4
          replace p221 := eq_true p221
          replace q221 := eq_true q221
          have p222 : 0 ≤ (t220 : Int) := de_
          have q222 : t220 < (l1_2.length : Int) := de_
          obtain ⟨ad222, A222_1, c222_1, A222_2, c222_2, e222, hx222_0, hx222_1, hx222_2, hl222_1, hi222_1, hl222_2, hi222_2⟩ := at_T44 HR1_2.out t220 p222 q222
          have hw222_2 := hx222_2
          have hw222_1 := hx222_1
          have hw222_0 := hx222_0
          cases e222
          replace hx222_0 := (HB.out.cell (World.block_lt_of_cell? w _ hx222_0)).trans hx222_0
          replace hx222_1 := (HB.out.cell (World.block_lt_of_cell? w _ hx222_1)).trans hx222_1
          replace hx222_2 := (HB.out.cell (World.block_lt_of_cell? w _ hx222_2)).trans hx222_2
          have HR222_1 := Aside0.mk hi222_1
          have HC222_1 := Aside0.mk hl222_1
          clear hi222_1 hl222_1
          have HR222_2 := Aside0.mk hi222_2
          have HC222_2 := Aside0.mk hl222_2
          clear hi222_2 hl222_2
          replace p222 := eq_true p222
          replace q222 := eq_true q222
          refine start_ (n := 20) (S := fun w' => w'.cell? ⟨gb214, 0, none⟩ = some (.int .i64 a0_0) ∧ w'.cell? ⟨gb214, 1, none⟩ = some (.int .i64 a0_1) ∧ w'.cell? ⟨gb214, 2, none⟩ = some (.string a0_2) ∧ w'.cell? ⟨gb214, 3, none⟩ = some (.slice A0_3 l0_3.length c0_3) ∧ w'.cell? ⟨gb214, 4, none⟩ = some (.slice (some ad221) l0_4.length c0_4) ∧ w'.cell? ⟨gb215, 0, none⟩ = some (.int .i64 a1_0) ∧ w'.cell? ⟨gb215, 1, none⟩ = some (.slice A1_1 l1_1.length c1_1) ∧ w'.cell? ⟨gb215, 2, none⟩ = some (.slice (some ad222) l1_2.length c1_2) ∧ w'.cell? ad221 = some (.int .i64 ((rd_T30 l0_4 0).f0)) ∧ w'.cell? ⟨ad221.block, ad221.off + 1, none⟩ = some (.int .i64 ((rd_T30 l0_4 0).f1)) ∧ w'.cell? ⟨ad221.block, ad221.off + 2, none⟩ = some (.string ((rd_T30 l0_4 0).f2)) ∧ w'.cell? ⟨ad221.block, ad221.off + 3, none⟩ = some (.slice A221_3 ((rd_T30 l0_4 0).f3).length c221_3) ∧ w'.cell? ⟨ad221.block, ad221.off + 4, none⟩ = some (.slice A221_4 ((rd_T30 l0_4 0).f4).length c221_4) ∧ w'.cell? (ad222.add ((t220).toNat * 3)) = some (.int .i64 ((rd_T44 l1_2 t220).f0)) ∧ w'.cell? ⟨(ad222.add ((t220).toNat * 3)).block, (ad222.add ((t220).toNat * 3)).off + 1, none⟩ = some (.slice A222_1 ((rd_T44 l1_2 t220).f1).length c222_1) ∧ w'.cell? ⟨(ad222.add ((t220).toNat * 3)).block, (ad222.add ((t220).toNat * 3)).off + 2, none⟩ = some (.slice A222_2 ((rd_T44 l1_2 t220).f2).length c222_2)) (ds := []) #[false, false, false, false, false, false, false, false, false, false, false, false, false, false, false, false, false, false, false, false] (by kernel_rfl) rfl rfl ⟨(blk_cell BK214.out 0).trans rfl, (blk_cell BK214.out 1).trans rfl, (blk_cell BK214.out 2).trans rfl, (blk_cell BK214.out 3).trans rfl, (blk_cell BK214.out 4).trans rfl, (blk_cell BK215.out 0).trans rfl, (blk_cell BK215.out 1).trans rfl, (blk_cell BK215.out 2).trans rfl, ((HB.out.cell (World.block_lt_of_cell? w _ hw221_0)).trans hw221_0), ((HB.out.cell (World.block_lt_of_cell? w _ hw221_1)).trans hw221_1), ((HB.out.cell (World.block_lt_of_cell? w _ hw221_2)).trans hw221_2), ((HB.out.cell (World.block_lt_of_cell? w _ hw221_3)).trans hw221_3), ((HB.out.cell (World.block_lt_of_cell? w _ hw221_4)).trans hw221_4), ((HB.out.cell (World.block_lt_of_cell? w _ hw222_0)).trans hw222_0), ((HB.out.cell (World.block_lt_of_cell? w _ hw222_1)).trans hw222_1), ((HB.out.cell (World.block_lt_of_cell? w _ hw222_2)).trans hw222_2)⟩ (fun hHeld => ?_); refine with_tabW spec_l5Has.tab17 spec_l5Has.bits17 (fun HT_ HW_ => ?_)
          generalize w53.drew = w57 at BK214 BK215 HB HR221_3 HR221_4 HR222_1 HR222_2 hx221_0 hx221_1 hx221_2 hx221_3 hx221_4 hx222_0 hx222_1 hx222_2 hHeld ⊢
          refine pure_ (i := 0) (N := some 59) (v := ?_) (a' := ?_) #[true, false, false, false, false, false, false, false, false, false, false, false, false, false, false, false, false, false, false, false] rfl rfl (any_of HT_.out (by kernel_rfl)) (fun _ _ _ h => h) (Or.inl ⟨by rfl, ?_⟩) ?_ ?_
          rotate_left
          ·intro w'
           go_simp
           with_reducible rfl
          rotate_left
          ·simp only [Act.put, List.setIfInBounds_toArray, List.set_cons_zero, List.set_cons_succ, i64_w, i32_w]
           rfl
          refine take_ (i := 1) (N := some 60) (v := ?_) (a' := ?_) #[true, true, false, false, false, false, false, false, false, false, false, false, false, false, false, false, false, false, false, false] rfl rfl (take_ofW HT_.out HW_.out (by kernel_rfl)) (fun _ _ _ h => h) (Or.inl ⟨by rfl, ?_⟩) hHeld ?_ ?_
          rotate_left
          ·rintro w' ⟨s0, s1, s2, s3, s4, s5, s6, s7, s8, s9, s10, s11, s12, s13, s14, s15⟩
           go_simp
           with_reducible rfl
          rotate_left
          ·simp only [Act.put, List.setIfInBounds_toArray, List.set_cons_zero, List.set_cons_succ, i64_w, i32_w]
           rfl
          refine pure_ (i := 2) (N := some 61) (v := ?_) (a' := ?_) #[true, true, true, false, false, false, false, false, false, false, false, false, false, false, false, false, false, false, false, false] rfl rfl (any_of HT_.out (by kernel_rfl)) (fun _ _ _ h => h) (Or.inl ⟨by rfl, ?_⟩) ?_ ?_
          rotate_left
          ·intro w'
           go_simp
           with_reducible rfl
          rotate_left
          ·simp only [Act.put, List.setIfInBounds_toArray, List.set_cons_zero, List.set_cons_succ, i64_w, i32_w]
           rfl
          refine pure_ (i := 3) (N := some 62) (v := ?_) (a' := ?_) #[true, true, true, true, false, false, false, false, false, false, false, false, false, false, false, false, false, false, false, false] rfl rfl (any_of HT_.out (by kernel_rfl)) (fun _ _ _ h => h) (Or.inl ⟨by rfl, ?_⟩) ?_ ?_
          rotate_left
          ·intro w'
           go_simp
           with_reducible rfl
          rotate_left
          ·simp only [Act.put, List.setIfInBounds_toArray, List.set_cons_zero, List.set_cons_succ, i64_w, i32_w]
           rfl
          refine pure_ (i := 4) (N := some 63) (v := ?_) (a' := ?_) #[true, true, true, true, true, false, false, false, false, false, false, false, false, false, false, false, false, false, false, false] rfl rfl (any_of HT_.out (by kernel_rfl)) (fun _ _ _ h => h) (Or.inl ⟨by rfl, ?_⟩) ?_ ?_
          rotate_left
          ·intro w'
           go_simp
           with_reducible rfl
          rotate_left
          ·simp only [Act.put, List.setIfInBounds_toArray, List.set_cons_zero, List.set_cons_succ, i64_w, i32_w]
           rfl
          refine pure_ (i := 5) (N := some 64) (v := ?_) (a' := ?_) #[true, true, true, true, true, true, false, false, false, false, false, false, false, false, false, false, false, false, false, false] rfl rfl (any_of HT_.out (by kernel_rfl)) (fun _ _ _ h => h) (Or.inl ⟨by rfl, ?_⟩) ?_ ?_
          rotate_left
          ·intro w'
           go_simp
           with_reducible rfl
          rotate_left
          ·simp only [Act.put, List.setIfInBounds_toArray, List.set_cons_zero, List.set_cons_succ, i64_w, i32_w]
           rfl
          refine pure_ (i := 6) (N := some 65) (v := ?_) (a' := ?_) #[true, true, true, true, true, true, true, false, false, false, false, false, false, false, false, false, false, false, false, false] rfl rfl (any_of HT_.out (by kernel_rfl)) (fun _ _ _ h => h) (Or.inl ⟨by rfl, ?_⟩) ?_ ?_
          rotate_left
          ·intro w'
           go_simp
           with_reducible rfl
          rotate_left
          ·simp only [Act.put, List.setIfInBounds_toArray, List.set_cons_zero, List.set_cons_succ, i64_w, i32_w]
           rfl
          refine pure_ (i := 7) (N := some 66) (v := ?_) (a' := ?_) #[true, true, true, true, true, true, true, true, false, false, false, false, false, false, false, false, false, false, false, false] rfl rfl (any_of HT_.out (by kernel_rfl)) (fun _ _ _ h => h) (Or.inl ⟨by rfl, ?_⟩) ?_ ?_
          rotate_left
          ·intro w'
           go_simp
           with_reducible rfl
          rotate_left
          ·simp only [Act.put, List.setIfInBounds_toArray, List.set_cons_zero, List.set_cons_succ, i64_w, i32_w]
           rfl
          refine pure_ (i := 8) (N := some 67) (v := ?_) (a' := ?_) #[true, true, true, true, true, true, true, true, true, false, false, false, false, false, false, false, false, false, false, false] rfl rfl (any_of HT_.out (by kernel_rfl)) (fun _ _ _ h => h) (Or.inl ⟨by rfl, ?_⟩) ?_ ?_
          rotate_left
          ·intro w'
           go_simp
           with_reducible rfl
          rotate_left
          ·simp only [Act.put, List.setIfInBounds_toArray, List.set_cons_zero, List.set_cons_succ, i64_w, i32_w]
           rfl
          refine pure_ (i := 12) (N := some 71) (v := ?_) (a' := ?_) #[true, true, true, true, true, true, true, true, true, false, false, false, true, false, false, false, false, false, false, false] rfl rfl (any_of HT_.out (by kernel_rfl)) (fun _ _ _ h => h) (Or.inl ⟨by rfl, ?_⟩) ?_ ?_
          rotate_left
          ·intro w'
           go_simp
           with_reducible rfl
          rotate_left
          ·simp only [Act.put, List.setIfInBounds_toArray, List.set_cons_zero, List.set_cons_succ, i64_w, i32_w]
           rfl
          refine pure_ (i := 14) (N := some 73) (v := ?_) (a' := ?_) #[true, true, true, true, true, true, true, true, true, false, false, false, true, false, true, false, false, false, false, false] rfl rfl (any_of HT_.out (by kernel_rfl)) (fun _ _ _ h => h) (Or.inl ⟨by rfl, ?_⟩) ?_ ?_
          rotate_left
          ·intro w'
           go_simp
           with_reducible rfl
          rotate_left
          ·simp only [Act.put, List.setIfInBounds_toArray, List.set_cons_zero, List.set_cons_succ, i64_w, i32_w]
           rfl
          refine take_ (i := 9) (N := some 68) (v := ?_) (a' := ?_) #[true, true, true, true, true, true, true, true, true, true, false, false, true, false, true, false, false, false, false, false] rfl rfl (take_ofW HT_.out HW_.out (by kernel_rfl)) (fun _ _ _ h => h) (Or.inl ⟨by rfl, ?_⟩) hHeld ?_ ?_
          rotate_left
          ·rintro w' ⟨s0, s1, s2, s3, s4, s5, s6, s7, s8, s9, s10, s11, s12, s13, s14, s15⟩
           go_simp
           with_reducible rfl
          rotate_left
          ·simp only [Act.put, List.setIfInBounds_toArray, List.set_cons_zero, List.set_cons_succ, i64_w, i32_w]
           rfl
          refine pure_ (i := 10) (N := some 69) (v := ?_) (a' := ?_) #[true, true, true, true, true, true, true, true, true, true, true, false, true, false, true, false, false, false, false, false] rfl rfl (any_of HT_.out (by kernel_rfl)) (fun _ _ _ h => h) (Or.inl ⟨by rfl, ?_⟩) ?_ ?_
          rotate_left
          ·intro w'
           go_simp
           with_reducible rfl
          rotate_left
          ·simp only [Act.put, List.setIfInBounds_toArray, List.set_cons_zero, List.set_cons_succ, i64_w, i32_w]
           rfl
          refine take_ (i := 11) (N := some 70) (v := ?_) (a' := ?_) #[true, true, true, true, true, true, true, true, true, true, true, true, true, false, true, false, false, false, false, false] rfl rfl (take_ofW HT_.out HW_.out (by kernel_rfl)) (fun _ _ _ h => h) (Or.inl ⟨by rfl, ?_⟩) hHeld ?_ ?_
          rotate_left
          ·rintro w' ⟨s0, s1, s2, s3, s4, s5, s6, s7, s8, s9, s10, s11, s12, s13, s14, s15⟩
           go_simp
           with_reducible rfl
          rotate_left
          ·simp only [Act.put, List.setIfInBounds_toArray, List.set_cons_zero, List.set_cons_succ, i64_w, i32_w]
           rfl
          refine take_ (i := 13) (N := some 72) (v := ?_) (a' := ?_) #[true, true, true, true, true, true, true, true, true, true, true, true, true, true, true, false, false, false, false, false] rfl rfl (take_ofW HT_.out HW_.out (by kernel_rfl)) (fun _ _ _ h => h) (Or.inl ⟨by rfl, ?_⟩) hHeld ?_ ?_
          rotate_left
          ·rintro w' ⟨s0, s1, s2, s3, s4, s5, s6, s7, s8, s9, s10, s11, s12, s13, s14, s15⟩
           go_simp
           with_reducible rfl
          rotate_left
          ·simp only [Act.put, List.setIfInBounds_toArray, List.set_cons_zero, List.set_cons_succ, i64_w, i32_w]
           rfl
          refine pure_ (i := 15) (N := some 74) (v := ?_) (a' := ?_) #[true, true, true, true, true, true, true, true, true, true, true, true, true, true, true, true, false, false, false, false] rfl rfl (any_of HT_.out (by kernel_rfl)) (fun _ _ _ h => h) (Or.inl ⟨by rfl, ?_⟩) ?_ ?_
          rotate_left
          ·intro w'
           go_simp
           with_reducible rfl
          rotate_left
          ·simp only [Act.put, List.setIfInBounds_toArray, List.set_cons_zero, List.set_cons_succ, i64_w, i32_w]
           rfl
          refine take_ (i := 16) (N := some 75) (v := ?_) (a' := ?_) #[true, true, true, true, true, true, true, true, true, true, true, true, true, true, true, true, true, false, false, false] rfl rfl (take_ofW HT_.out HW_.out (by kernel_rfl)) (fun _ _ _ h => h) (Or.inl ⟨by rfl, ?_⟩) hHeld ?_ ?_
          rotate_left
          ·rintro w' ⟨s0, s1, s2, s3, s4, s5, s6, s7, s8, s9, s10, s11, s12, s13, s14, s15⟩
           go_simp
           with_reducible rfl
          rotate_left
          ·simp only [Act.put, List.setIfInBounds_toArray, List.set_cons_zero, List.set_cons_succ, i64_w, i32_w]
           rfl
          refine one_ (i := 17) (N := some 76) #[true, true, true, true, true, true, true, true, true, true, true, true, true, true, true, true, true, true, false, false] rfl rfl (one_of HT_.out (by kernel_rfl)) (by decide) (fun K hK => ?_)
          refine goes_ Try.func68 (by kernel_rfl) rfl #[.agg #[.int .i64 ((rd_T30 l0_4 0).f0), .int .i64 ((rd_T30 l0_4 0).f1), .string ((rd_T30 l0_4 0).f2), .slice A221_3 ((rd_T30 l0_4 0).f3).length c221_3, .slice A221_4 ((rd_T30 l0_4 0).f4).length c221_4], .agg #[.int .i64 ((rd_T44 l1_2 t220).f0), .slice A222_1 ((rd_T44 l1_2 t220).f1).length c222_1, .slice A222_2 ((rd_T44 l1_2 t220).f2).length c222_2]] (by rfl) rfl rfl ma_ ?_
          with_reducible refine (ih k (by omega) ((rd_T30 l0_4 0).f0) ((rd_T30 l0_4 0).f1) ((rd_T30 l0_4 0).f2) _ _ ((rd_T30 l0_4 0).f3) _ _ ((rd_T30 l0_4 0).f4) ((rd_T44 l1_2 t220).f0) _ _ ((rd_T44 l1_2 t220).f1) _ _ ((rd_T44 l1_2 t220).f2) t223 _ ?side1 ?side2 ?side3 ?side4 ?side5 ?side6 ?side7 ?side8 A51.out).mono ?_
          (case side1 => exact C_ (Kd.C_below HR221_3.out HB.out))
          (case side2 => exact HC221_3.out)
          (case side3 => exact C_ (Kd.C_below HR221_4.out HB.out))
          (case side4 => exact HC221_4.out)
          (case side5 => exact C_ (Kd.C_below HR222_1.out HB.out))
          (case side6 => exact HC222_1.out)
          (case side7 => exact C_ (Kd.C_below HR222_2.out HB.out))
          (case side8 => exact HC222_2.out)
          rintro e w58 ⟨rfl, hb⟩
          refine ⟨_, rfl, ?_⟩
          replace BK214 := Aside0.mk (blk_below (K_ BK214.out) hb)
          replace BK215 := Aside0.mk (blk_below (K_ BK215.out) hb)
          replace HB := Aside0.mk (below_step (B2_ HB.out GE214.out GE215.out) hb)
          (try clear hb)
          (try clear hb2)
          (try clear hk)
          (try clear hi)
          refine hK.out _ _ ⟨(blk_cell BK214.out 0).trans rfl, (blk_cell BK214.out 1).trans rfl, (blk_cell BK214.out 2).trans rfl, (blk_cell BK214.out 3).trans rfl, (blk_cell BK214.out 4).trans rfl, (blk_cell BK215.out 0).trans rfl, (blk_cell BK215.out 1).trans rfl, (blk_cell BK215.out 2).trans rfl, ((HB.out.cell (World.block_lt_of_cell? w _ hw221_0)).trans hw221_0), ((HB.out.cell (World.block_lt_of_cell? w _ hw221_1)).trans hw221_1), ((HB.out.cell (World.block_lt_of_cell? w _ hw221_2)).trans hw221_2), ((HB.out.cell (World.block_lt_of_cell? w _ hw221_3)).trans hw221_3), ((HB.out.cell (World.block_lt_of_cell? w _ hw221_4)).trans hw221_4), ((HB.out.cell (World.block_lt_of_cell? w _ hw222_0)).trans hw222_0), ((HB.out.cell (World.block_lt_of_cell? w _ hw222_1)).trans hw222_1), ((HB.out.cell (World.block_lt_of_cell? w _ hw222_2)).trans hw222_2)⟩ (fun hHeld => ?_)
          clear hK K
          refine norm_ (a' := ?_) ?_ ?_
          rotate_left
          ·show Act.put _ (some 76) _ = _
           simp only [Act.put, List.setIfInBounds_toArray, List.set_cons_zero, List.set_cons_succ, i64_w, i32_w]
           rfl
          refine pure_ (i := 18) (N := some 77) (v := ?_) (a' := ?_) #[true, true, true, true, true, true, true, true, true, true, true, true, true, true, true, true, true, true, true, false] rfl rfl (any_of HT_.out (by kernel_rfl)) (fun _ _ _ h => h) (Or.inl ⟨by rfl, ?_⟩) ?_ ?_
          rotate_left
          ·intro w'
           go_simp
           with_reducible rfl
          rotate_left
          ·simp only [Act.put, List.setIfInBounds_toArray, List.set_cons_zero, List.set_cons_succ, i64_w, i32_w]
           rfl
          refine pure_ (i := 19) (N := some 4) (v := ?_) (a' := ?_) #[true, true, true, true, true, true, true, true, true, true, true, true, true, true, true, true, true, true, true, true] rfl rfl (any_of HT_.out (by kernel_rfl)) (fun _ _ _ h => h) (Or.inl ⟨by rfl, ?_⟩) ?_ ?_
          rotate_left
          ·intro w'
           go_simp
           with_reducible rfl
          rotate_left
          ·simp only [Act.put, List.setIfInBounds_toArray, List.set_cons_zero, List.set_cons_succ, i64_w, i32_w]
           rfl
          refine done_ (done_of HT_.out (by kernel_rfl)) ?_
          try go_wp2
          go_ret
          exact ⟨er_, B2_ HB.out GE214.out GE215.out⟩
         ·rw [if_neg c50] at H
          exact absurd H (by simp)
        ·rw [if_neg c49] at H
         exact absurd H (by simp)
       ·rw [if_neg c48] at H
        exact absurd H (by simp)
      ·rw [if_neg c47] at H
       have c47b0 : decide (0 ≤ t220) = false := decide_eq_false c47
       clear c47
       obtain rfl := Option.some.inj H
       go_enter Try.func68, Try.ntmps68
       try go_wp2_with (first | ((with_reducible refine gate_dst (N := 2) rfl ?_); refine box_event ?hg (N := 2) ?hd (cs := #[.int .i64 a0_0, .int .i64 a0_1, .string a0_2, .slice A0_3 l0_3.length c0_3, .slice A0_4 l0_4.length c0_4]) (t := 30) ?hr ?_; (case hd => rfl); (case hg => rfl); (case hr => first | (go_simp; done) | (go_simp; rfl)); intro gb214 hg w59 hbox hb; have BK214 := Aside0.mk (hbox); have GW214 := Aside0.mk ((by rw [hg]; exact (below_size (B0_ HB.out)) : w.heap.size ≤ gb214)); have GE214 := Aside0.mk ((by rw [hg]; exact (below_size (B0_ HB.out)) : w.heap.size ≤ gb214)); replace HB := Aside0.mk (below_step (B0_ HB.out) hb); clear hb hbox hg) | ((with_reducible refine gate_dst (N := 3) rfl ?_); refine box_event ?hg (N := 3) ?hd (cs := #[.int .i64 a1_0, .slice A1_1 l1_1.length c1_1, .slice A1_2 l1_2.length c1_2]) (t := 44) ?hr ?_; (case hd => rfl); (case hg => rfl); (case hr => first | (go_simp; done) | (go_simp; rfl)); intro gb215 hg w60 hbox hb; have BK215 := Aside0.mk (hbox); have GW215 := Aside0.mk ((by rw [hg]; exact (below_size (B1_ HB.out GE214.out)) : w.heap.size ≤ gb215)); have GE215 := Aside0.mk ((by rw [hg]; exact (below_size (B1_ HB.out GE214.out)) : w.heap.size ≤ gb215)); replace HB := Aside0.mk (below_step (B1_ HB.out GE214.out) hb); have NB214_215 := Aside0.mk ((by rw [hg]; exact Nat.ne_of_lt (blk_lt (K_ BK214.out)) : gb214 ≠ gb215)); have NB215_214 := Aside0.mk ((by rw [hg]; exact Nat.ne_of_gt (blk_lt (K_ BK214.out)) : gb215 ≠ gb214)); replace BK214 := Aside0.mk (blk_below (K_ BK214.out) hb); clear hb hbox hg; have hnb61 := NB215_214.out; have hnc61 := NB214_215.out; obtain ⟨hcz62_0, hcz62_1, hcz62_2, hfz62_0, hfz62_1, hfz62_2⟩ := box3_ BK215.out; obtain ⟨hcz63_0, hcz63_1, hcz63_2, hcz63_3, hcz63_4, hfz63_0, hfz63_1, hfz63_2, hfz63_3, hfz63_4⟩ := box5_ BK214.out) | ((with_reducible refine gate_callee (f := 100) rfl ?_); refine goesL_ (some 58) rfl rfl Try.func100 (by kernel_rfl) rfl #[.slice A1_1 l1_1.length c1_1, .string a0_2] rfl ma_ ?_; (with_reducible refine (spec_IndexOf.calls k _ _ l1_1 a0_2 t220 _ ?side1 ?side2 A45.out).mono ?_); (case side1 => exact C_ (Kd.C_below HR1_1.out HB.out)); (case side2 => exact HC1_1.out); rintro e w' ⟨rfl, ⟨nd, rfl⟩⟩; refine ⟨_, rfl, ?_⟩))
       (try (rw [drewN_self w60]; generalize hq_ : World.drewN w60 _ = w60; have n0_ : Aside0 (w60.heap[gb214]? = some (.cells #[.int .i64 a0_0, .int .i64 a0_1, .string a0_2, .slice A0_3 l0_3.length c0_3, .slice A0_4 l0_4.length c0_4] 30 (0, 0))) := ⟨by rw [← hq_]; exact (K_ BK214.out)⟩; have n1_ : Aside0 (w60.heap[gb215]? = some (.cells #[.int .i64 a1_0, .slice A1_1 l1_1.length c1_1, .slice A1_2 l1_2.length c1_2] 44 (0, 0))) := ⟨by rw [← hq_]; exact (K_ BK215.out)⟩; have n2_ : Aside0 (Below w.heap.size w w60) := ⟨by rw [← hq_]; exact (B2_ HB.out GE214.out GE215.out)⟩; clear BK214 BK215 HB hq_; have BK214 := n0_; have BK215 := n1_; have HB := n2_; clear n0_ n1_ n2_))
       replace BK214 := Aside0.mk (blk_drew BK214.out)
       replace BK215 := Aside0.mk (blk_drew BK215.out)
       replace HB := Aside0.mk (below_drew1 HB.out)
       refine start_ (n := 20) (S := fun w' => w'.cell? ⟨gb214, 0, none⟩ = some (.int .i64 a0_0) ∧ w'.cell? ⟨gb214, 1, none⟩ = some (.int .i64 a0_1) ∧ w'.cell? ⟨gb214, 2, none⟩ = some (.string a0_2) ∧ w'.cell? ⟨gb214, 3, none⟩ = some (.slice A0_3 l0_3.length c0_3) ∧ w'.cell? ⟨gb214, 4, none⟩ = some (.slice A0_4 l0_4.length c0_4)) (ds := []) #[false, false, false, false, false, false, false, false, false, false, false, false, false, false, false, false, false, false, false, false] (by kernel_rfl) rfl rfl ⟨(blk_cell BK214.out 0).trans rfl, (blk_cell BK214.out 1).trans rfl, (blk_cell BK214.out 2).trans rfl, (blk_cell BK214.out 3).trans rfl, (blk_cell BK214.out 4).trans rfl⟩ (fun hHeld => ?_); refine with_tabW spec_l5Has.tab17 spec_l5Has.bits17 (fun HT_ HW_ => ?_)
       generalize w60.drew = w64 at BK214 BK215 HB hHeld ⊢
       refine pure_ (i := 0) (N := some 59) (v := ?_) (a' := ?_) #[true, false, false, false, false, false, false, false, false, false, false, false, false, false, false, false, false, false, false, false] rfl rfl (any_of HT_.out (by kernel_rfl)) (fun _ _ _ h => h) (Or.inl ⟨by rfl, ?_⟩) ?_ ?_
       rotate_left
       ·intro w'
        go_simp
        with_reducible rfl
       rotate_left
       ·simp only [Act.put, List.setIfInBounds_toArray, List.set_cons_zero, List.set_cons_succ, i64_w, i32_w]
        rfl
       refine take_ (i := 1) (N := some 60) (v := ?_) (a' := ?_) #[true, true, false, false, false, false, false, false, false, false, false, false, false, false, false, false, false, false, false, false] rfl rfl (take_ofW HT_.out HW_.out (by kernel_rfl)) (fun _ _ _ h => h) (Or.inl ⟨by rfl, ?_⟩) hHeld ?_ ?_
       rotate_left
       ·rintro w' ⟨s0, s1, s2, s3, s4⟩
        go_simp
        with_reducible rfl
       rotate_left
       ·simp only [Act.put, List.setIfInBounds_toArray, List.set_cons_zero, List.set_cons_succ, i64_w, i32_w]
        rfl
       refine pure_ (i := 2) (N := some 61) (v := ?_) (a' := ?_) #[true, true, true, false, false, false, false, false, false, false, false, false, false, false, false, false, false, false, false, false] rfl rfl (any_of HT_.out (by kernel_rfl)) (fun _ _ _ h => h) (Or.inl ⟨by rfl, ?_⟩) ?_ ?_
       rotate_left
       ·intro w'
        go_simp
        with_reducible rfl
       rotate_left
       ·simp only [Act.put, List.setIfInBounds_toArray, List.set_cons_zero, List.set_cons_succ, i64_w, i32_w]
        rfl
       refine pure_ (i := 3) (N := some 62) (v := ?_) (a' := ?_) #[true, true, true, true, false, false, false, false, false, false, false, false, false, false, false, false, false, false, false, false] rfl rfl (any_of HT_.out (by kernel_rfl)) (fun _ _ _ h => h) (Or.inl ⟨by rfl, ?_⟩) ?_ ?_
       rotate_left
       ·intro w'
        go_simp
        with_reducible rfl
       rotate_left
       ·simp only [Act.put, List.setIfInBounds_toArray, List.set_cons_zero, List.set_cons_succ, i64_w, i32_w]
        rfl
       refine pure_ (i := 4) (N := some 63) (v := ?_) (a' := ?_) #[true, true, true, true, true, false, false, false, false, false, false, false, false, false, false, false, false, false, false, false] rfl rfl (any_of HT_.out (by kernel_rfl)) (fun _ _ _ h => h) (Or.inl ⟨by rfl, ?_⟩) ?_ ?_
       rotate_left
       ·intro w'
        go_simp
        with_reducible rfl
       rotate_left
       ·simp only [Act.put, List.setIfInBounds_toArray, List.set_cons_zero, List.set_cons_succ, i64_w, i32_w]
        rfl
       refine pure_ (i := 5) (N := some 64) (v := ?_) (a' := ?_) #[true, true, true, true, true, true, false, false, false, false, false, false, false, false, false, false, false, false, false, false] rfl rfl (any_of HT_.out (by kernel_rfl)) (fun _ _ _ h => h) (Or.inl ⟨by rfl, ?_⟩) ?_ ?_
       rotate_left
       ·intro w'
        go_simp
        with_reducible rfl
       rotate_left
       ·simp only [Act.put, List.setIfInBounds_toArray, List.set_cons_zero, List.set_cons_succ, i64_w, i32_w]
        rfl
       refine pure_ (i := 6) (N := some 65) (v := ?_) (a' := ?_) #[true, true, true, true, true, true, true, false, false, false, false, false, false, false, false, false, false, false, false, false] rfl rfl (any_of HT_.out (by kernel_rfl)) (fun _ _ _ h => h) (Or.inl ⟨by rfl, ?_⟩) ?_ ?_
       rotate_left
       ·intro w'
        go_simp
        with_reducible rfl
       rotate_left
       ·simp only [Act.put, List.setIfInBounds_toArray, List.set_cons_zero, List.set_cons_succ, i64_w, i32_w]
        rfl
       refine pure_ (i := 7) (N := some 66) (v := ?_) (a' := ?_) #[true, true, true, true, true, true, true, true, false, false, false, false, false, false, false, false, false, false, false, false] rfl rfl (any_of HT_.out (by kernel_rfl)) (fun _ _ _ h => h) (Or.inl ⟨by rfl, ?_⟩) ?_ ?_
       rotate_left
       ·intro w'
        go_simp
        with_reducible rfl
       rotate_left
       ·simp only [Act.put, List.setIfInBounds_toArray, List.set_cons_zero, List.set_cons_succ, i64_w, i32_w]
        rfl
       refine pure_ (i := 8) (N := some 67) (v := undef) (a' := ?_) #[true, true, true, true, true, true, true, true, true, false, false, false, false, false, false, false, false, false, false, false] rfl rfl (any_of HT_.out (by kernel_rfl)) (fun _ _ _ h => h) (Or.inr ⟨by rfl, rfl⟩) ?_ ?_
       rotate_left
       ·simp only [Act.put, List.setIfInBounds_toArray, List.set_cons_zero, List.set_cons_succ, i64_w, i32_w]
        rfl
       refine pure_ (i := 9) (N := some 68) (v := undef) (a' := ?_) #[true, true, true, true, true, true, true, true, true, true, false, false, false, false, false, false, false, false, false, false] rfl rfl (any_of HT_.out (by kernel_rfl)) (fun _ _ _ h => h) (Or.inr ⟨by rfl, rfl⟩) ?_ ?_
       rotate_left
       ·simp only [Act.put, List.setIfInBounds_toArray, List.set_cons_zero, List.set_cons_succ, i64_w, i32_w]
        rfl
       refine pure_ (i := 10) (N := some 69) (v := undef) (a' := ?_) #[true, true, true, true, true, true, true, true, true, true, true, false, false, false, false, false, false, false, false, false] rfl rfl (any_of HT_.out (by kernel_rfl)) (fun _ _ _ h => h) (Or.inr ⟨by rfl, rfl⟩) ?_ ?_
       rotate_left
       ·simp only [Act.put, List.setIfInBounds_toArray, List.set_cons_zero, List.set_cons_succ, i64_w, i32_w]
        rfl
       refine pure_ (i := 11) (N := some 70) (v := undef) (a' := ?_) #[true, true, true, true, true, true, true, true, true, true, true, true, false, false, false, false, false, false, false, false] rfl rfl (any_of HT_.out (by kernel_rfl)) (fun _ _ _ h => h) (Or.inr ⟨by rfl, rfl⟩) ?_ ?_
       rotate_left
       ·simp only [Act.put, List.setIfInBounds_toArray, List.set_cons_zero, List.set_cons_succ, i64_w, i32_w]
        rfl
       refine pure_ (i := 12) (N := some 71) (v := undef) (a' := ?_) #[true, true, true, true, true, true, true, true, true, true, true, true, true, false, false, false, false, false, false, false] rfl rfl (any_of HT_.out (by kernel_rfl)) (fun _ _ _ h => h) (Or.inr ⟨by rfl, rfl⟩) ?_ ?_
       rotate_left
       ·simp only [Act.put, List.setIfInBounds_toArray, List.set_cons_zero, List.set_cons_succ, i64_w, i32_w]
        rfl
       refine pure_ (i := 13) (N := some 72) (v := undef) (a' := ?_) #[true, true, true, true, true, true, true, true, true, true, true, true, true, true, false, false, false, false, false, false] rfl rfl (any_of HT_.out (by kernel_rfl)) (fun _ _ _ h => h) (Or.inr ⟨by rfl, rfl⟩) ?_ ?_
       rotate_left
       ·simp only [Act.put, List.setIfInBounds_toArray, List.set_cons_zero, List.set_cons_succ, i64_w, i32_w]
        rfl
       refine pure_ (i := 14) (N := some 73) (v := undef) (a' := ?_) #[true, true, true, true, true, true, true, true, true, true, true, true, true, true, true, false, false, false, false, false] rfl rfl (any_of HT_.out (by kernel_rfl)) (fun _ _ _ h => h) (Or.inr ⟨by rfl, rfl⟩) ?_ ?_
       rotate_left
       ·simp only [Act.put, List.setIfInBounds_toArray, List.set_cons_zero, List.set_cons_succ, i64_w, i32_w]
        rfl
       refine pure_ (i := 15) (N := some 74) (v := undef) (a' := ?_) #[true, true, true, true, true, true, true, true, true, true, true, true, true, true, true, true, false, false, false, false] rfl rfl (any_of HT_.out (by kernel_rfl)) (fun _ _ _ h => h) (Or.inr ⟨by rfl, rfl⟩) ?_ ?_
       rotate_left
       ·simp only [Act.put, List.setIfInBounds_toArray, List.set_cons_zero, List.set_cons_succ, i64_w, i32_w]
        rfl
       refine pure_ (i := 16) (N := some 75) (v := undef) (a' := ?_) #[true, true, true, true, true, true, true, true, true, true, true, true, true, true, true, true, true, false, false, false] rfl rfl (any_of HT_.out (by kernel_rfl)) (fun _ _ _ h => h) (Or.inr ⟨by rfl, rfl⟩) ?_ ?_
       rotate_left
       ·simp only [Act.put, List.setIfInBounds_toArray, List.set_cons_zero, List.set_cons_succ, i64_w, i32_w]
        rfl
       refine pure_ (i := 17) (N := some 76) (v := undef) (a' := ?_) #[true, true, true, true, true, true, true, true, true, true, true, true, true, true, true, true, true, true, false, false] rfl rfl (any_of HT_.out (by kernel_rfl)) (fun _ _ _ h => h) (Or.inr ⟨by rfl, rfl⟩) ?_ ?_
       rotate_left
       ·simp only [Act.put, List.setIfInBounds_toArray, List.set_cons_zero, List.set_cons_succ, i64_w, i32_w]
        rfl
       refine pure_ (i := 18) (N := some 77) (v := ?_) (a' := ?_) #[true, true, true, true, true, true, true, true, true, true, true, true, true, true, true, true, true, true, true, false] rfl rfl (any_of HT_.out (by kernel_rfl)) (fun _ _ _ h => h) (Or.inl ⟨by rfl, ?_⟩) ?_ ?_
       rotate_left
       ·intro w'
        go_simp
        with_reducible rfl
       rotate_left
       ·simp only [Act.put, List.setIfInBounds_toArray, List.set_cons_zero, List.set_cons_succ, i64_w, i32_w]
        rfl
       refine pure_ (i := 19) (N := some 4) (v := ?_) (a' := ?_) #[true, true, true, true, true, true, true, true, true, true, true, true, true, true, true, true, true, true, true, true] rfl rfl (any_of HT_.out (by kernel_rfl)) (fun _ _ _ h => h) (Or.inl ⟨by rfl, ?_⟩) ?_ ?_
       rotate_left
       ·intro w'
        go_simp
        with_reducible rfl
       rotate_left
       ·simp only [Act.put, List.setIfInBounds_toArray, List.set_cons_zero, List.set_cons_succ, i64_w, i32_w]
        rfl
       refine done_ (done_of HT_.out (by kernel_rfl)) ?_
       try go_wp2
       go_ret
       exact ⟨er_, B2_ HB.out GE214.out GE215.out⟩
     ·rw [if_neg c46] at H
      have c46b0 : (a0_0 == 4) = false := beq_eq_false_iff_ne.mpr c46
      have c46b1 : (a0_0 != 4) = true := bne_iff_ne.mpr c46
      obtain rfl := Option.some.inj H
      go_enter Try.func68, Try.ntmps68
      try go_wp2_with (first | ((with_reducible refine gate_dst (N := 2) rfl ?_); refine box_event ?hg (N := 2) ?hd (cs := #[.int .i64 a0_0, .int .i64 a0_1, .string a0_2, .slice A0_3 l0_3.length c0_3, .slice A0_4 l0_4.length c0_4]) (t := 30) ?hr ?_; (case hd => rfl); (case hg => rfl); (case hr => first | (go_simp; done) | (go_simp; rfl)); intro gb214 hg w65 hbox hb; have BK214 := Aside0.mk (hbox); have GW214 := Aside0.mk ((by rw [hg]; exact (below_size (B0_ HB.out)) : w.heap.size ≤ gb214)); have GE214 := Aside0.mk ((by rw [hg]; exact (below_size (B0_ HB.out)) : w.heap.size ≤ gb214)); replace HB := Aside0.mk (below_step (B0_ HB.out) hb); clear hb hbox hg) | ((with_reducible refine gate_dst (N := 3) rfl ?_); refine box_event ?hg (N := 3) ?hd (cs := #[.int .i64 a1_0, .slice A1_1 l1_1.length c1_1, .slice A1_2 l1_2.length c1_2]) (t := 44) ?hr ?_; (case hd => rfl); (case hg => rfl); (case hr => first | (go_simp; done) | (go_simp; rfl)); intro gb215 hg w66 hbox hb; have BK215 := Aside0.mk (hbox); have GW215 := Aside0.mk ((by rw [hg]; exact (below_size (B1_ HB.out GE214.out)) : w.heap.size ≤ gb215)); have GE215 := Aside0.mk ((by rw [hg]; exact (below_size (B1_ HB.out GE214.out)) : w.heap.size ≤ gb215)); replace HB := Aside0.mk (below_step (B1_ HB.out GE214.out) hb); have NB214_215 := Aside0.mk ((by rw [hg]; exact Nat.ne_of_lt (blk_lt (K_ BK214.out)) : gb214 ≠ gb215)); have NB215_214 := Aside0.mk ((by rw [hg]; exact Nat.ne_of_gt (blk_lt (K_ BK214.out)) : gb215 ≠ gb214)); replace BK214 := Aside0.mk (blk_below (K_ BK214.out) hb); clear hb hbox hg; have hnb67 := NB215_214.out; have hnc67 := NB214_215.out; obtain ⟨hcz68_0, hcz68_1, hcz68_2, hfz68_0, hfz68_1, hfz68_2⟩ := box3_ BK215.out; obtain ⟨hcz69_0, hcz69_1, hcz69_2, hcz69_3, hcz69_4, hfz69_0, hfz69_1, hfz69_2, hfz69_3, hfz69_4⟩ := box5_ BK214.out) | ((with_reducible refine gate_callee (f := 100) rfl ?_); refine goesL_ (some 58) rfl rfl Try.func100 (by kernel_rfl) rfl #[.slice A1_1 l1_1.length c1_1, .string a0_2] rfl ma_ ?_; (with_reducible refine (spec_IndexOf.calls k _ _ l1_1 a0_2 t220 _ ?side1 ?side2 A45.out).mono ?_); (case side1 => exact C_ (Kd.C_below HR1_1.out HB.out)); (case side2 => exact HC1_1.out); rintro e w' ⟨rfl, ⟨nd, rfl⟩⟩; refine ⟨_, rfl, ?_⟩))
      (try (rw [drewN_self w66]; generalize hq_ : World.drewN w66 _ = w66; have n0_ : Aside0 (w66.heap[gb214]? = some (.cells #[.int .i64 a0_0, .int .i64 a0_1, .string a0_2, .slice A0_3 l0_3.length c0_3, .slice A0_4 l0_4.length c0_4] 30 (0, 0))) := ⟨by rw [← hq_]; exact (K_ BK214.out)⟩; have n1_ : Aside0 (w66.heap[gb215]? = some (.cells #[.int .i64 a1_0, .slice A1_1 l1_1.length c1_1, .slice A1_2 l1_2.length c1_2] 44 (0, 0))) := ⟨by rw [← hq_]; exact (K_ BK215.out)⟩; have n2_ : Aside0 (Below w.heap.size w w66) := ⟨by rw [← hq_]; exact (B2_ HB.out GE214.out GE215.out)⟩; clear BK214 BK215 HB hq_; have BK214 := n0_; have BK215 := n1_; have HB := n2_; clear n0_ n1_ n2_))
      replace BK214 := Aside0.mk (blk_drew BK214.out)
      replace BK215 := Aside0.mk (blk_drew BK215.out)
      replace HB := Aside0.mk (below_drew1 HB.out)
      refine start_ (n := 20) (S := fun w' => w'.cell? ⟨gb214, 0, none⟩ = some (.int .i64 a0_0) ∧ w'.cell? ⟨gb214, 1, none⟩ = some (.int .i64 a0_1) ∧ w'.cell? ⟨gb214, 2, none⟩ = some (.string a0_2) ∧ w'.cell? ⟨gb214, 3, none⟩ = some (.slice A0_3 l0_3.length c0_3) ∧ w'.cell? ⟨gb214, 4, none⟩ = some (.slice A0_4 l0_4.length c0_4)) (ds := []) #[false, false, false, false, false, false, false, false, false, false, false, false, false, false, false, false, false, false, false, false] (by kernel_rfl) rfl rfl ⟨(blk_cell BK214.out 0).trans rfl, (blk_cell BK214.out 1).trans rfl, (blk_cell BK214.out 2).trans rfl, (blk_cell BK214.out 3).trans rfl, (blk_cell BK214.out 4).trans rfl⟩ (fun hHeld => ?_); refine with_tabW spec_l5Has.tab17 spec_l5Has.bits17 (fun HT_ HW_ => ?_)
      generalize w66.drew = w70 at BK214 BK215 HB hHeld ⊢
      refine pure_ (i := 0) (N := some 59) (v := ?_) (a' := ?_) #[true, false, false, false, false, false, false, false, false, false, false, false, false, false, false, false, false, false, false, false] rfl rfl (any_of HT_.out (by kernel_rfl)) (fun _ _ _ h => h) (Or.inl ⟨by rfl, ?_⟩) ?_ ?_
      rotate_left
      ·intro w'
       go_simp
       with_reducible rfl
      rotate_left
      ·simp only [Act.put, List.setIfInBounds_toArray, List.set_cons_zero, List.set_cons_succ, i64_w, i32_w]
       rfl
      refine take_ (i := 1) (N := some 60) (v := ?_) (a' := ?_) #[true, true, false, false, false, false, false, false, false, false, false, false, false, false, false, false, false, false, false, false] rfl rfl (take_ofW HT_.out HW_.out (by kernel_rfl)) (fun _ _ _ h => h) (Or.inl ⟨by rfl, ?_⟩) hHeld ?_ ?_
      rotate_left
      ·rintro w' ⟨s0, s1, s2, s3, s4⟩
       go_simp
       with_reducible rfl
      rotate_left
      ·simp only [Act.put, List.setIfInBounds_toArray, List.set_cons_zero, List.set_cons_succ, i64_w, i32_w]
       rfl
      refine pure_ (i := 2) (N := some 61) (v := ?_) (a' := ?_) #[true, true, true, false, false, false, false, false, false, false, false, false, false, false, false, false, false, false, false, false] rfl rfl (any_of HT_.out (by kernel_rfl)) (fun _ _ _ h => h) (Or.inl ⟨by rfl, ?_⟩) ?_ ?_
      rotate_left
      ·intro w'
       go_simp
       with_reducible rfl
      rotate_left
      ·simp only [Act.put, List.setIfInBounds_toArray, List.set_cons_zero, List.set_cons_succ, i64_w, i32_w]
       rfl
      refine pure_ (i := 3) (N := some 62) (v := ?_) (a' := ?_) #[true, true, true, true, false, false, false, false, false, false, false, false, false, false, false, false, false, false, false, false] rfl rfl (any_of HT_.out (by kernel_rfl)) (fun _ _ _ h => h) (Or.inl ⟨by rfl, ?_⟩) ?_ ?_
      rotate_left
      ·intro w'
       go_simp
       with_reducible rfl
      rotate_left
      ·simp only [Act.put, List.setIfInBounds_toArray, List.set_cons_zero, List.set_cons_succ, i64_w, i32_w]
       rfl
      refine pure_ (i := 4) (N := some 63) (v := undef) (a' := ?_) #[true, true, true, true, true, false, false, false, false, false, false, false, false, false, false, false, false, false, false, false] rfl rfl (any_of HT_.out (by kernel_rfl)) (fun _ _ _ h => h) (Or.inr ⟨by rfl, rfl⟩) ?_ ?_
      rotate_left
      ·simp only [Act.put, List.setIfInBounds_toArray, List.set_cons_zero, List.set_cons_succ, i64_w, i32_w]
       rfl
      refine pure_ (i := 5) (N := some 64) (v := undef) (a' := ?_) #[true, true, true, true, true, true, false, false, false, false, false, false, false, false, false, false, false, false, false, false] rfl rfl (any_of HT_.out (by kernel_rfl)) (fun _ _ _ h => h) (Or.inr ⟨by rfl, rfl⟩) ?_ ?_
      rotate_left
      ·simp only [Act.put, List.setIfInBounds_toArray, List.set_cons_zero, List.set_cons_succ, i64_w, i32_w]
       rfl
      refine pure_ (i := 6) (N := some 65) (v := ?_) (a' := ?_) #[true, true, true, true, true, true, true, false, false, false, false, false, false, false, false, false, false, false, false, false] rfl rfl (any_of HT_.out (by kernel_rfl)) (fun _ _ _ h => h) (Or.inl ⟨by rfl, ?_⟩) ?_ ?_
      rotate_left
      ·intro w'
       go_simp
       with_reducible rfl
      rotate_left
      ·simp only [Act.put, List.setIfInBounds_toArray, List.set_cons_zero, List.set_cons_succ, i64_w, i32_w]
       rfl
      refine pure_ (i := 7) (N := some 66) (v := ?_) (a' := ?_) #[true, true, true, true, true, true, true, true, false, false, false, false, false, false, false, false, false, false, false, false] rfl rfl (any_of HT_.out (by kernel_rfl)) (fun _ _ _ h => h) (Or.inl ⟨by rfl, ?_⟩) ?_ ?_
      rotate_left
      ·intro w'
       go_simp
       with_reducible rfl
      rotate_left
      ·simp only [Act.put, List.setIfInBounds_toArray, List.set_cons_zero, List.set_cons_succ, i64_w, i32_w]
       rfl
      refine pure_ (i := 8) (N := some 67) (v := undef) (a' := ?_) #[true, true, true, true, true, true, true, true, true, false, false, false, false, false, false, false, false, false, false, false] rfl rfl (any_of HT_.out (by kernel_rfl)) (fun _ _ _ h => h) (Or.inr ⟨by rfl, rfl⟩) ?_ ?_
      rotate_left
      ·simp only [Act.put, List.setIfInBounds_toArray, List.set_cons_zero, List.set_cons_succ, i64_w, i32_w]
       rfl
      refine pure_ (i := 9) (N := some 68) (v := undef) (a' := ?_) #[true, true, true, true, true, true, true, true, true, true, false, false, false, false, false, false, false, false, false, false] rfl rfl (any_of HT_.out (by kernel_rfl)) (fun _ _ _ h => h) (Or.inr ⟨by rfl, rfl⟩) ?_ ?_
      rotate_left
      ·simp only [Act.put, List.setIfInBounds_toArray, List.set_cons_zero, List.set_cons_succ, i64_w, i32_w]
       rfl
      refine pure_ (i := 10) (N := some 69) (v := undef) (a' := ?_) #[true, true, true, true, true, true, true, true, true, true, true, false, false, false, false, false, false, false, false, false] rfl rfl (any_of HT_.out (by kernel_rfl)) (fun _ _ _ h => h) (Or.inr ⟨by rfl, rfl⟩) ?_ ?_
      rotate_left
      ·simp only [Act.put, List.setIfInBounds_toArray, List.set_cons_zero, List.set_cons_succ, i64_w, i32_w]
       rfl
      refine pure_ (i := 11) (N := some 70) (v := undef) (a' := ?_) #[true, true, true, true, true, true, true, true, true, true, true, true, false, false, false, false, false, false, false, false] rfl rfl (any_of HT_.out (by kernel_rfl)) (fun _ _ _ h => h) (Or.inr ⟨by rfl, rfl⟩) ?_ ?_
      rotate_left
      ·simp only [Act.put, List.setIfInBounds_toArray, List.set_cons_zero, List.set_cons_succ, i64_w, i32_w]
       rfl
      refine pure_ (i := 12) (N := some 71) (v := undef) (a' := ?_) #[true, true, true, true, true, true, true, true, true, true, true, true, true, false, false, false, false, false, false, false] rfl rfl (any_of HT_.out (by kernel_rfl)) (fun _ _ _ h => h) (Or.inr ⟨by rfl, rfl⟩) ?_ ?_
      rotate_left
      ·simp only [Act.put, List.setIfInBounds_toArray, List.set_cons_zero, List.set_cons_succ, i64_w, i32_w]
       rfl
      refine pure_ (i := 13) (N := some 72) (v := undef) (a' := ?_) #[true, true, true, true, true, true, true, true, true, true, true, true, true, true, false, false, false, false, false, false] rfl rfl (any_of HT_.out (by kernel_rfl)) (fun _ _ _ h => h) (Or.inr ⟨by rfl, rfl⟩) ?_ ?_
      rotate_left
      ·simp only [Act.put, List.setIfInBounds_toArray, List.set_cons_zero, List.set_cons_succ, i64_w, i32_w]
       rfl
      refine pure_ (i := 14) (N := some 73) (v := undef) (a' := ?_) #[true, true, true, true, true, true, true, true, true, true, true, true, true, true, true, false, false, false, false, false] rfl rfl (any_of HT_.out (by kernel_rfl)) (fun _ _ _ h => h) (Or.inr ⟨by rfl, rfl⟩) ?_ ?_
      rotate_left
      ·simp only [Act.put, List.setIfInBounds_toArray, List.set_cons_zero, List.set_cons_succ, i64_w, i32_w]
       rfl
      refine pure_ (i := 15) (N := some 74) (v := undef) (a' := ?_) #[true, true, true, true, true, true, true, true, true, true, true, true, true, true, true, true, false, false, false, false] rfl rfl (any_of HT_.out (by kernel_rfl)) (fun _ _ _ h => h) (Or.inr ⟨by rfl, rfl⟩) ?_ ?_
      rotate_left
      ·simp only [Act.put, List.setIfInBounds_toArray, List.set_cons_zero, List.set_cons_succ, i64_w, i32_w]
       rfl
      refine pure_ (i := 16) (N := some 75) (v := undef) (a' := ?_) #[true, true, true, true, true, true, true, true, true, true, true, true, true, true, true, true, true, false, false, false] rfl rfl (any_of HT_.out (by kernel_rfl)) (fun _ _ _ h => h) (Or.inr ⟨by rfl, rfl⟩) ?_ ?_
      rotate_left
      ·simp only [Act.put, List.setIfInBounds_toArray, List.set_cons_zero, List.set_cons_succ, i64_w, i32_w]
       rfl
      refine pure_ (i := 17) (N := some 76) (v := undef) (a' := ?_) #[true, true, true, true, true, true, true, true, true, true, true, true, true, true, true, true, true, true, false, false] rfl rfl (any_of HT_.out (by kernel_rfl)) (fun _ _ _ h => h) (Or.inr ⟨by rfl, rfl⟩) ?_ ?_
      rotate_left
      ·simp only [Act.put, List.setIfInBounds_toArray, List.set_cons_zero, List.set_cons_succ, i64_w, i32_w]
       rfl
      refine pure_ (i := 18) (N := some 77) (v := ?_) (a' := ?_) #[true, true, true, true, true, true, true, true, true, true, true, true, true, true, true, true, true, true, true, false] rfl rfl (any_of HT_.out (by kernel_rfl)) (fun _ _ _ h => h) (Or.inl ⟨by rfl, ?_⟩) ?_ ?_
      rotate_left
      ·intro w'
       go_simp
       with_reducible rfl
      rotate_left
      ·simp only [Act.put, List.setIfInBounds_toArray, List.set_cons_zero, List.set_cons_succ, i64_w, i32_w]
       rfl
      refine pure_ (i := 19) (N := some 4) (v := ?_) (a' := ?_) #[true, true, true, true, true, true, true, true, true, true, true, true, true, true, true, true, true, true, true, true] rfl rfl (any_of HT_.out (by kernel_rfl)) (fun _ _ _ h => h) (Or.inl ⟨by rfl, ?_⟩) ?_ ?_
      rotate_left
      ·intro w'
       go_simp
       with_reducible rfl
      rotate_left
      ·simp only [Act.put, List.setIfInBounds_toArray, List.set_cons_zero, List.set_cons_succ, i64_w, i32_w]
       rfl
      refine done_ (done_of HT_.out (by kernel_rfl)) ?_
      try go_wp2
      go_ret
      exact ⟨er_, B2_ HB.out GE214.out GE215.out⟩
    ·rw [if_neg c44] at H
     have c44b0 : (a1_0 == 4) = false := beq_eq_false_iff_ne.mpr c44
     have c44b1 : (a1_0 != 4) = true := bne_iff_ne.mpr c44
     have H' := Aside0.mk H
     clear H
     go_enter Try.func68, Try.ntmps68
     go_wp2_with (first | ((with_reducible refine gate_dst (N := 2) rfl ?_); refine box_event ?hg (N := 2) ?hd (cs := #[.int .i64 a0_0, .int .i64 a0_1, .string a0_2, .slice A0_3 l0_3.length c0_3, .slice A0_4 l0_4.length c0_4]) (t := 30) ?hr ?_; (case hd => rfl); (case hg => rfl); (case hr => first | (go_simp; done) | (go_simp; rfl)); intro gb214 hg w71 hbox hb; have BK214 := Aside0.mk (hbox); have GW214 := Aside0.mk ((by rw [hg]; exact (below_size (B0_ HB.out)) : w.heap.size ≤ gb214)); have GE214 := Aside0.mk ((by rw [hg]; exact (below_size (B0_ HB.out)) : w.heap.size ≤ gb214)); replace HB := Aside0.mk (below_step (B0_ HB.out) hb); clear hb hbox hg) | ((with_reducible refine gate_dst (N := 3) rfl ?_); refine box_event ?hg (N := 3) ?hd (cs := #[.int .i64 a1_0, .slice A1_1 l1_1.length c1_1, .slice A1_2 l1_2.length c1_2]) (t := 44) ?hr ?_; (case hd => rfl); (case hg => rfl); (case hr => first | (go_simp; done) | (go_simp; rfl)); intro gb215 hg w72 hbox hb; have BK215 := Aside0.mk (hbox); have GW215 := Aside0.mk ((by rw [hg]; exact (below_size (B1_ HB.out GE214.out)) : w.heap.size ≤ gb215)); have GE215 := Aside0.mk ((by rw [hg]; exact (below_size (B1_ HB.out GE214.out)) : w.heap.size ≤ gb215)); replace HB := Aside0.mk (below_step (B1_ HB.out GE214.out) hb); have NB214_215 := Aside0.mk ((by rw [hg]; exact Nat.ne_of_lt (blk_lt (K_ BK214.out)) : gb214 ≠ gb215)); have NB215_214 := Aside0.mk ((by rw [hg]; exact Nat.ne_of_gt (blk_lt (K_ BK214.out)) : gb215 ≠ gb214)); replace BK214 := Aside0.mk (blk_below (K_ BK214.out) hb); clear hb hbox hg; have hnb73 := NB215_214.out; have hnc73 := NB214_215.out; obtain ⟨hcz74_0, hcz74_1, hcz74_2, hfz74_0, hfz74_1, hfz74_2⟩ := box3_ BK215.out))
     go_loopg [7] k (fun kq v7 w' => ∃ (x7_1 : Int), v7 = .int .i64 x7_1 ∧ Aside0 (spec_l5Has.l1 kq x7_1 a0_0 a0_1 a0_2 l0_3 l0_4 a1_0 l1_1 l1_2 = some r) ∧ Aside0 (kq ≤ k) ∧ Aside0 (w'.heap[gb214]? = some (.cells #[.int .i64 a0_0, .int .i64 a0_1, .string a0_2, (.slice A0_3 l0_3.length c0_3), (.slice A0_4 l0_4.length c0_4)] 30 (0, 0))) ∧ Aside0 (w'.heap[gb215]? = some (.cells #[.int .i64 a1_0, (.slice A1_1 l1_1.length c1_1), (.slice A1_2 l1_2.length c1_2)] 44 (0, 0))) ∧ Aside0 (Below w.heap.size w w'))
     case atStart => exact ⟨(0), q_, H', ⟨Nat.le_refl _⟩, ⟨K_ BK214.out⟩, ⟨K_ BK215.out⟩, ⟨B2_ HB.out GE214.out GE215.out⟩⟩
     case round =>
      clear H'
      try clear c44
      try clear c44b0
      try clear c44b1
      try clear hcz74_0
      try clear hcz74_1
      try clear hcz74_2
      try clear hfz74_0
      try clear hfz74_1
      try clear hfz74_2
      obtain ⟨x7_1, rfl, HA, HK1, BK214, BK215, HB⟩ := hrel
      cases gk with
      | zero => exact absurd HA.out (by simp [spec_l5Has.l1])
      | succ k1 =>
       have H := HA.out
       clear HA
       simp only [spec_l5Has.l1] at H
       have HC75 := Aside0.mk H
       clear H
       go_upto_region 19 with (fail)
       go_cut [87] (fun v87 wc => ∃ (kq : Nat) (x87_74 : Bool), v87 = .bool x87_74 ∧ Aside0 (spec_l5Has.j3 kq x7_1 x87_74 a0_0 a0_1 a0_2 l0_3 l0_4 a1_0 l1_1 l1_2 = some r) ∧ Aside0 (kq ≤ k1) ∧ Aside0 (wc.heap[gb214]? = some (.cells #[.int .i64 a0_0, .int .i64 a0_1, .string a0_2, (.slice A0_3 l0_3.length c0_3), (.slice A0_4 l0_4.length c0_4)] 30 (0, 0))) ∧ Aside0 (wc.heap[gb215]? = some (.cells #[.int .i64 a1_0, (.slice A1_1 l1_1.length c1_1), (.slice A1_2 l1_2.length c1_2)] 44 (0, 0))) ∧ Aside0 (Below w.heap.size w wc))
       case first =>
        have H := HC75.out
        clear HC75
        by_cases c76 : x7_1 < (l0_4.length : Int)
        ·rw [if_pos c76] at H
         have c76b0 : decide (x7_1 < (l0_4.length : Int)) = true := decide_eq_true c76
         clear c76
         (first | rw [c76b0] | (simp only [i64_w, i32_w]; rw [c76b0]) | skip)
         have H' := Aside0.mk H
         clear H
         have hnb77 := NB214_215.out
         have hnc77 := NB215_214.out
         obtain ⟨hcz78_0, hcz78_1, hcz78_2, hcz78_3, hcz78_4, hfz78_0, hfz78_1, hfz78_2, hfz78_3, hfz78_4⟩ := box5_ BK214.out
         go_wp2
         go_meet
         case rel => exact ⟨_, ((a0_0 == 5)), q_, H', ⟨by have := HK1.out; first | omega | exact Nat.le_refl _⟩, ⟨K_ BK214.out⟩, ⟨K_ BK215.out⟩, ⟨B2_ HB.out GE214.out GE215.out⟩⟩
        ·rw [if_neg c76] at H
         have c76b0 : decide (x7_1 < (l0_4.length : Int)) = false := decide_eq_false c76
         clear c76
         (first | rw [c76b0] | (simp only [i64_w, i32_w]; rw [c76b0]) | skip)
         have H' := Aside0.mk H
         clear H
         have hnb79 := NB214_215.out
         have hnc79 := NB215_214.out
         obtain ⟨hcz80_0, hcz80_1, hcz80_2, hcz80_3, hcz80_4, hfz80_0, hfz80_1, hfz80_2, hfz80_3, hfz80_4⟩ := box5_ BK214.out
         go_wp2
         go_meet
         case rel => exact ⟨_, (false), q_, H', ⟨by have := HK1.out; first | omega | exact Nat.le_refl _⟩, ⟨K_ BK214.out⟩, ⟨K_ BK215.out⟩, ⟨B2_ HB.out GE214.out GE215.out⟩⟩
       case rest =>
        clear HC75
        try clear c44
        try clear c44b0
        try clear c44b1
        try clear hcz74_0
        try clear hcz74_1
        try clear hcz74_2
        try clear hfz74_0
        try clear hfz74_1
        try clear hfz74_2
        obtain ⟨kq, x87_74, rfl, HA, HJ74, BK214, BK215, HB⟩ := hcut
        cases kq with
        | zero => exact absurd HA.out (by simp [spec_l5Has.j3])
        | succ kj74 =>
         have H := HA.out
         clear HA
         simp only [spec_l5Has.j3] at H
         by_cases c81 : x87_74 = true
         ·subst c81
          have H1 : (if 0 ≤ x7_1 then (if x7_1 < (l0_4.length : Int) then (if 0 < (l1_2.length : Int) then ((spec_l5Has.f kj74 ((rd_T30 l0_4 x7_1).f0) ((rd_T30 l0_4 x7_1).f1) ((rd_T30 l0_4 x7_1).f2) ((rd_T30 l0_4 x7_1).f3) ((rd_T30 l0_4 x7_1).f4) ((rd_T44 l1_2 0).f0) ((rd_T44 l1_2 0).f1) ((rd_T44 l1_2 0).f2)).bind fun t226 => (if t226 = true then (spec_l5Has.l1 kj74 (wrap64 (x7_1 + 1)) a0_0 a0_1 a0_2 l0_3 l0_4 a1_0 l1_1 l1_2) else (some false))) else (none)) else (none)) else (none)) = some r := by rw [if_pos rfl] at H; exact H
          clear H
          have H := H1
          clear H1
          by_cases c82 : 0 ≤ x7_1
          ·rw [if_pos c82] at H
           have c82b0 : decide (0 ≤ x7_1) = true := decide_eq_true c82
           clear c82
           by_cases c83 : x7_1 < (l0_4.length : Int)
           ·rw [if_pos c83] at H
            have c83b0 : decide (x7_1 < (l0_4.length : Int)) = true := decide_eq_true c83
            clear c83
            by_cases c84 : 0 < (l1_2.length : Int)
            ·rw [if_pos c84] at H
             have c84b0 : decide (0 < (l1_2.length : Int)) = true := decide_eq_true c84
             have c84b1 : decide (0 < l1_2.length) = true := decide_eq_true (by omega)
             clear c84
             replace H := Option.bind_eq_some_iff.mp H
             obtain ⟨t226, A850, H⟩ := H
             replace H : (if t226 = true then (spec_l5Has.l1 kj74 (wrap64 (x7_1 + 1)) a0_0 a0_1 a0_2 l0_3 l0_4 a1_0 l1_1 l1_2) else (some false)) = some r := H
             have A85 := Aside0.mk A850
             clear A850
             by_cases c86 : t226 = true
             ·subst c86
              have H1 : (spec_l5Has.l1 kj74 (wrap64 (x7_1 + 1)) a0_0 a0_1 a0_2 l0_3 l0_4 a1_0 l1_1 l1_2) = some r := by rw [if_pos rfl] at H; exact H
              clear H
              have H := H1
              clear H1
              have H' := Aside0.mk H
              clear H
              try go_wp2
              replace BK214 := Aside0.mk (blk_drew BK214.out)
              replace BK215 := Aside0.mk (blk_drew BK215.out)
              replace HB := Aside0.mk (below_drew1 HB.out)
              have p224 : 0 ≤ (x7_1 : Int) := de_
              have q224 : x7_1 < (l0_4.length : Int) := de_
              obtain ⟨ad224, A224_3, c224_3, A224_4, c224_4, e224, hx224_0, hx224_1, hx224_2, hx224_3, hx224_4, hl224_3, hi224_3, hl224_4, hi224_4⟩ := at_T30 HR0_4.out x7_1 p224 q224
              have hw224_4 := hx224_4
              have hw224_3 := hx224_3
              have hw224_2 := hx224_2
              have hw224_1 := hx224_1
              have hw224_0 := hx224_0
              cases e224
              replace hx224_0 := (HB.out.cell (World.block_lt_of_cell? w _ hx224_0)).trans hx224_0
              replace hx224_1 := (HB.out.cell (World.block_lt_of_cell? w _ hx224_1)).trans hx224_1
              replace hx224_2 := (HB.out.cell (World.block_lt_of_cell? w _ hx224_2)).trans hx224_2
              replace hx224_3 := (HB.out.cell (World.block_lt_of_cell? w _ hx224_3)).trans hx224_3
              replace hx224_4 := (HB.out.cell (World.block_lt_of_cell? w _ hx224_4)).trans hx224_4
              have HR224_3 := Aside0.mk hi224_3
              have HC224_3 := Aside0.mk hl224_3
              clear hi224_3 hl224_3
              have HR224_4 := Aside0.mk hi224_4
              have HC224_4 := Aside0.mk hl224_4
              clear hi224_4 hl224_4
              replace p224 := eq_true p224
              replace q224 := eq_true q224
              have p225 : 0 ≤ (0 : Int) := (by omega)
              have q225 : 0 < (l1_2.length : Int) := de_
              obtain ⟨ad225, A225_1, c225_1, A225_2, c225_2, e225, hx225_0, hx225_1, hx225_2, hl225_1, hi225_1, hl225_2, hi225_2⟩ := at_T44 HR1_2.out 0 p225 q225
              have hw225_2 := hx225_2
              (try rw [show ((0 : Int)).toNat = 0 from rfl] at hw225_2)
              (try rw [show 0 * 3 = 0 from rfl] at hw225_2)
              (try rw [Addr.add_zero'] at hw225_2)
              have hw225_1 := hx225_1
              (try rw [show ((0 : Int)).toNat = 0 from rfl] at hw225_1)
              (try rw [show 0 * 3 = 0 from rfl] at hw225_1)
              (try rw [Addr.add_zero'] at hw225_1)
              have hw225_0 := hx225_0
              (try rw [show ((0 : Int)).toNat = 0 from rfl] at hw225_0)
              (try rw [show 0 * 3 = 0 from rfl] at hw225_0)
              (try rw [Addr.add_zero'] at hw225_0)
              cases e225
              have qi225 : (0 < l1_2.length) = True := eq_true (by omega)
              (try rw [show ((0 : Int)).toNat = 0 from rfl] at hx225_0)
              (try rw [show 0 * 3 = 0 from rfl] at hx225_0)
              (try rw [Addr.add_zero'] at hx225_0)
              (try rw [show ((0 : Int)).toNat = 0 from rfl] at hx225_1)
              (try rw [show 0 * 3 = 0 from rfl] at hx225_1)
              (try rw [Addr.add_zero'] at hx225_1)
              (try rw [show ((0 : Int)).toNat = 0 from rfl] at hx225_2)
              (try rw [show 0 * 3 = 0 from rfl] at hx225_2)
              (try rw [Addr.add_zero'] at hx225_2)
              replace hx225_0 := (HB.out.cell (World.block_lt_of_cell? w _ hx225_0)).trans hx225_0
              replace hx225_1 := (HB.out.cell (World.block_lt_of_cell? w _ hx225_1)).trans hx225_1
              replace hx225_2 := (HB.out.cell (World.block_lt_of_cell? w _ hx225_2)).trans hx225_2
              have HR225_1 := Aside0.mk hi225_1
              have HC225_1 := Aside0.mk hl225_1
              clear hi225_1 hl225_1
              have HR225_2 := Aside0.mk hi225_2
              have HC225_2 := Aside0.mk hl225_2
              clear hi225_2 hl225_2
              replace p225 := eq_true p225
              replace q225 := eq_true q225
              refine start_ (n := 11) (S := fun w' => w'.cell? ⟨gb214, 0, none⟩ = some (.int .i64 a0_0) ∧ w'.cell? ⟨gb214, 1, none⟩ = some (.int .i64 a0_1) ∧ w'.cell? ⟨gb214, 2, none⟩ = some (.string a0_2) ∧ w'.cell? ⟨gb214, 3, none⟩ = some (.slice A0_3 l0_3.length c0_3) ∧ w'.cell? ⟨gb214, 4, none⟩ = some (.slice (some ad224) l0_4.length c0_4) ∧ w'.cell? ⟨gb215, 0, none⟩ = some (.int .i64 a1_0) ∧ w'.cell? ⟨gb215, 1, none⟩ = some (.slice A1_1 l1_1.length c1_1) ∧ w'.cell? ⟨gb215, 2, none⟩ = some (.slice (some ad225) l1_2.length c1_2) ∧ w'.cell? (ad224.add ((x7_1).toNat * 5)) = some (.int .i64 ((rd_T30 l0_4 x7_1).f0)) ∧ w'.cell? ⟨(ad224.add ((x7_1).toNat * 5)).block, (ad224.add ((x7_1).toNat * 5)).off + 1, none⟩ = some (.int .i64 ((rd_T30 l0_4 x7_1).f1)) ∧ w'.cell? ⟨(ad224.add ((x7_1).toNat * 5)).block, (ad224.add ((x7_1).toNat * 5)).off + 2, none⟩ = some (.string ((rd_T30 l0_4 x7_1).f2)) ∧ w'.cell? ⟨(ad224.add ((x7_1).toNat * 5)).block, (ad224.add ((x7_1).toNat * 5)).off + 3, none⟩ = some (.slice A224_3 ((rd_T30 l0_4 x7_1).f3).length c224_3) ∧ w'.cell? ⟨(ad224.add ((x7_1).toNat * 5)).block, (ad224.add ((x7_1).toNat * 5)).off + 4, none⟩ = some (.slice A224_4 ((rd_T30 l0_4 x7_1).f4).length c224_4) ∧ w'.cell? ad225 = some (.int .i64 ((rd_T44 l1_2 0).f0)) ∧ w'.cell? ⟨ad225.block, ad225.off + 1, none⟩ = some (.slice A225_1 ((rd_T44 l1_2 0).f1).length c225_1) ∧ w'.cell? ⟨ad225.block, ad225.off + 2, none⟩ = some (.slice A225_2 ((rd_T44 l1_2 0).f2).length c225_2)) (ds := []) #[false, false, false, false, false, false, false, false, false, false, false] (by kernel_rfl) rfl rfl ⟨(blk_cell BK214.out 0).trans rfl, (blk_cell BK214.out 1).trans rfl, (blk_cell BK214.out 2).trans rfl, (blk_cell BK214.out 3).trans rfl, (blk_cell BK214.out 4).trans rfl, (blk_cell BK215.out 0).trans rfl, (blk_cell BK215.out 1).trans rfl, (blk_cell BK215.out 2).trans rfl, ((HB.out.cell (World.block_lt_of_cell? w _ hw224_0)).trans hw224_0), ((HB.out.cell (World.block_lt_of_cell? w _ hw224_1)).trans hw224_1), ((HB.out.cell (World.block_lt_of_cell? w _ hw224_2)).trans hw224_2), ((HB.out.cell (World.block_lt_of_cell? w _ hw224_3)).trans hw224_3), ((HB.out.cell (World.block_lt_of_cell? w _ hw224_4)).trans hw224_4), ((HB.out.cell (World.block_lt_of_cell? w _ hw225_0)).trans hw225_0), ((HB.out.cell (World.block_lt_of_cell? w _ hw225_1)).trans hw225_1), ((HB.out.cell (World.block_lt_of_cell? w _ hw225_2)).trans hw225_2)⟩ (fun hHeld => ?_); refine with_tabW spec_l5Has.tab21 spec_l5Has.bits21 (fun HT_ HW_ => ?_)
              generalize wc.drew = w87 at BK214 BK215 HB HR224_3 HR224_4 HR225_1 HR225_2 hx224_0 hx224_1 hx224_2 hx224_3 hx224_4 hx225_0 hx225_1 hx225_2 hHeld ⊢
              refine pure_ (i := 0) (N := some 90) (v := ?_) (a' := ?_) #[true, false, false, false, false, false, false, false, false, false, false] rfl rfl (any_of HT_.out (by kernel_rfl)) (fun _ _ _ h => h) (Or.inl ⟨by rfl, ?_⟩) ?_ ?_
              rotate_left
              ·intro w'
               go_simp
               with_reducible rfl
              rotate_left
              ·simp only [Act.put, List.setIfInBounds_toArray, List.set_cons_zero, List.set_cons_succ, i64_w, i32_w]
               rfl
              refine pure_ (i := 2) (N := some 92) (v := ?_) (a' := ?_) #[true, false, true, false, false, false, false, false, false, false, false] rfl rfl (any_of HT_.out (by kernel_rfl)) (fun _ _ _ h => h) (Or.inl ⟨by rfl, ?_⟩) ?_ ?_
              rotate_left
              ·intro w'
               go_simp
               with_reducible rfl
              rotate_left
              ·simp only [Act.put, List.setIfInBounds_toArray, List.set_cons_zero, List.set_cons_succ, i64_w, i32_w]
               rfl
              refine pure_ (i := 5) (N := some 95) (v := ?_) (a' := ?_) #[true, false, true, false, false, true, false, false, false, false, false] rfl rfl (any_of HT_.out (by kernel_rfl)) (fun _ _ _ h => h) (Or.inl ⟨by rfl, ?_⟩) ?_ ?_
              rotate_left
              ·intro w'
               go_simp
               with_reducible rfl
              rotate_left
              ·simp only [Act.put, List.setIfInBounds_toArray, List.set_cons_zero, List.set_cons_succ, i64_w, i32_w]
               rfl
              refine take_ (i := 1) (N := some 91) (v := ?_) (a' := ?_) #[true, true, true, false, false, true, false, false, false, false, false] rfl rfl (take_ofW HT_.out HW_.out (by kernel_rfl)) (fun _ _ _ h => h) (Or.inl ⟨by rfl, ?_⟩) hHeld ?_ ?_
              rotate_left
              ·rintro w' ⟨s0, s1, s2, s3, s4, s5, s6, s7, s8, s9, s10, s11, s12, s13, s14, s15⟩
               go_simp
               with_reducible rfl
              rotate_left
              ·simp only [Act.put, List.setIfInBounds_toArray, List.set_cons_zero, List.set_cons_succ, i64_w, i32_w]
               rfl
              refine pure_ (i := 3) (N := some 93) (v := ?_) (a' := ?_) #[true, true, true, true, false, true, false, false, false, false, false] rfl rfl (any_of HT_.out (by kernel_rfl)) (fun _ _ _ h => h) (Or.inl ⟨by rfl, ?_⟩) ?_ ?_
              rotate_left
              ·intro w'
               go_simp
               with_reducible rfl
              rotate_left
              ·simp only [Act.put, List.setIfInBounds_toArray, List.set_cons_zero, List.set_cons_succ, i64_w, i32_w]
               rfl
              refine take_ (i := 4) (N := some 94) (v := ?_) (a' := ?_) #[true, true, true, true, true, true, false, false, false, false, false] rfl rfl (take_ofW HT_.out HW_.out (by kernel_rfl)) (fun _ _ _ h => h) (Or.inl ⟨by rfl, ?_⟩) hHeld ?_ ?_
              rotate_left
              ·rintro w' ⟨s0, s1, s2, s3, s4, s5, s6, s7, s8, s9, s10, s11, s12, s13, s14, s15⟩
               go_simp
               with_reducible rfl
              rotate_left
              ·simp only [Act.put, List.setIfInBounds_toArray, List.set_cons_zero, List.set_cons_succ, i64_w, i32_w]
               rfl
              refine take_ (i := 6) (N := some 96) (v := ?_) (a' := ?_) #[true, true, true, true, true, true, true, false, false, false, false] rfl rfl (take_ofW HT_.out HW_.out (by kernel_rfl)) (fun _ _ _ h => h) (Or.inl ⟨by rfl, ?_⟩) hHeld ?_ ?_
              rotate_left
              ·rintro w' ⟨s0, s1, s2, s3, s4, s5, s6, s7, s8, s9, s10, s11, s12, s13, s14, s15⟩
               go_simp
               with_reducible rfl
              rotate_left
              ·simp only [Act.put, List.setIfInBounds_toArray, List.set_cons_zero, List.set_cons_succ, i64_w, i32_w]
               rfl
              refine pure_ (i := 7) (N := some 97) (v := ?_) (a' := ?_) #[true, true, true, true, true, true, true, true, false, false, false] rfl rfl (any_of HT_.out (by kernel_rfl)) (fun _ _ _ h => h) (Or.inl ⟨by rfl, ?_⟩) ?_ ?_
              rotate_left
              ·intro w'
               go_simp
               with_reducible rfl
              rotate_left
              ·simp only [Act.put, List.setIfInBounds_toArray, List.set_cons_zero, List.set_cons_succ, i64_w, i32_w]
               rfl
              refine take_ (i := 8) (N := some 98) (v := ?_) (a' := ?_) #[true, true, true, true, true, true, true, true, true, false, false] rfl rfl (take_ofW HT_.out HW_.out (by kernel_rfl)) (fun _ _ _ h => h) (Or.inl ⟨by rfl, ?_⟩) hHeld ?_ ?_
              rotate_left
              ·rintro w' ⟨s0, s1, s2, s3, s4, s5, s6, s7, s8, s9, s10, s11, s12, s13, s14, s15⟩
               go_simp
               with_reducible rfl
              rotate_left
              ·simp only [Act.put, List.setIfInBounds_toArray, List.set_cons_zero, List.set_cons_succ, i64_w, i32_w]
               rfl
              refine one_ (i := 9) (N := some 99) #[true, true, true, true, true, true, true, true, true, true, false] rfl rfl (one_of HT_.out (by kernel_rfl)) (by decide) (fun K hK => ?_)
              refine goes_ Try.func68 (by kernel_rfl) rfl #[.agg #[.int .i64 ((rd_T30 l0_4 x7_1).f0), .int .i64 ((rd_T30 l0_4 x7_1).f1), .string ((rd_T30 l0_4 x7_1).f2), .slice A224_3 ((rd_T30 l0_4 x7_1).f3).length c224_3, .slice A224_4 ((rd_T30 l0_4 x7_1).f4).length c224_4], .agg #[.int .i64 ((rd_T44 l1_2 0).f0), .slice A225_1 ((rd_T44 l1_2 0).f1).length c225_1, .slice A225_2 ((rd_T44 l1_2 0).f2).length c225_2]] (by rfl) rfl rfl ma_ ?_
              with_reducible refine (ih kj74 (by have := HK1.out; have := HJ74.out; omega) ((rd_T30 l0_4 x7_1).f0) ((rd_T30 l0_4 x7_1).f1) ((rd_T30 l0_4 x7_1).f2) _ _ ((rd_T30 l0_4 x7_1).f3) _ _ ((rd_T30 l0_4 x7_1).f4) ((rd_T44 l1_2 0).f0) _ _ ((rd_T44 l1_2 0).f1) _ _ ((rd_T44 l1_2 0).f2) true _ ?side1 ?side2 ?side3 ?side4 ?side5 ?side6 ?side7 ?side8 A85.out).mono ?_
              (case side1 => exact C_ (Kd.C_below HR224_3.out HB.out))
              (case side2 => exact HC224_3.out)
              (case side3 => exact C_ (Kd.C_below HR224_4.out HB.out))
              (case side4 => exact HC224_4.out)
              (case side5 => exact C_ (Kd.C_below HR225_1.out HB.out))
              (case side6 => exact HC225_1.out)
              (case side7 => exact C_ (Kd.C_below HR225_2.out HB.out))
              (case side8 => exact HC225_2.out)
              rintro e w88 ⟨rfl, hb⟩
              refine ⟨_, rfl, ?_⟩
              replace BK214 := Aside0.mk (blk_below (K_ BK214.out) hb)
              replace BK215 := Aside0.mk (blk_below (K_ BK215.out) hb)
              replace HB := Aside0.mk (below_step (B2_ HB.out GE214.out GE215.out) hb)
              (try clear hb)
              (try clear hb2)
              (try clear hk)
              (try clear hi)
              refine hK.out _ _ ⟨(blk_cell BK214.out 0).trans rfl, (blk_cell BK214.out 1).trans rfl, (blk_cell BK214.out 2).trans rfl, (blk_cell BK214.out 3).trans rfl, (blk_cell BK214.out 4).trans rfl, (blk_cell BK215.out 0).trans rfl, (blk_cell BK215.out 1).trans rfl, (blk_cell BK215.out 2).trans rfl, ((HB.out.cell (World.block_lt_of_cell? w _ hw224_0)).trans hw224_0), ((HB.out.cell (World.block_lt_of_cell? w _ hw224_1)).trans hw224_1), ((HB.out.cell (World.block_lt_of_cell? w _ hw224_2)).trans hw224_2), ((HB.out.cell (World.block_lt_of_cell? w _ hw224_3)).trans hw224_3), ((HB.out.cell (World.block_lt_of_cell? w _ hw224_4)).trans hw224_4), ((HB.out.cell (World.block_lt_of_cell? w _ hw225_0)).trans hw225_0), ((HB.out.cell (World.block_lt_of_cell? w _ hw225_1)).trans hw225_1), ((HB.out.cell (World.block_lt_of_cell? w _ hw225_2)).trans hw225_2)⟩ (fun hHeld => ?_)
              clear hK K
              refine norm_ (a' := ?_) ?_ ?_
              rotate_left
              ·show Act.put _ (some 99) _ = _
               simp only [Act.put, List.setIfInBounds_toArray, List.set_cons_zero, List.set_cons_succ, i64_w, i32_w]
               rfl
              refine pure_ (i := 10) (N := some 100) (v := ?_) (a' := ?_) #[true, true, true, true, true, true, true, true, true, true, true] rfl rfl (any_of HT_.out (by kernel_rfl)) (fun _ _ _ h => h) (Or.inl ⟨by rfl, ?_⟩) ?_ ?_
              rotate_left
              ·intro w'
               go_simp
               with_reducible rfl
              rotate_left
              ·simp only [Act.put, List.setIfInBounds_toArray, List.set_cons_zero, List.set_cons_succ, i64_w, i32_w]
               rfl
              refine done_ (done_of HT_.out (by kernel_rfl)) ?_
              try go_wp2
              go_roundg kj74
              case measure => have := HK1.out; have := HJ74.out; omega
              case rel => exact ⟨(wrap64 (x7_1 + 1)), q_, H', ⟨by have := HK1.out; have := HJ74.out; omega⟩, ⟨K_ BK214.out⟩, ⟨K_ BK215.out⟩, ⟨B2_ HB.out GE214.out GE215.out⟩⟩
             ·replace c86 := Bool.eq_false_iff.mpr c86
              subst c86
              have H1 : (some false) = some r := by rw [if_neg (show ¬ (false = true) by decide)] at H; exact H
              clear H
              have H := H1
              clear H1
              obtain rfl := Option.some.inj H
              try go_wp2
              replace BK214 := Aside0.mk (blk_drew BK214.out)
              replace BK215 := Aside0.mk (blk_drew BK215.out)
              replace HB := Aside0.mk (below_drew1 HB.out)
              have p224 : 0 ≤ (x7_1 : Int) := de_
              have q224 : x7_1 < (l0_4.length : Int) := de_
              obtain ⟨ad224, A224_3, c224_3, A224_4, c224_4, e224, hx224_0, hx224_1, hx224_2, hx224_3, hx224_4, hl224_3, hi224_3, hl224_4, hi224_4⟩ := at_T30 HR0_4.out x7_1 p224 q224
              have hw224_4 := hx224_4
              have hw224_3 := hx224_3
              have hw224_2 := hx224_2
              have hw224_1 := hx224_1
              have hw224_0 := hx224_0
              cases e224
              replace hx224_0 := (HB.out.cell (World.block_lt_of_cell? w _ hx224_0)).trans hx224_0
              replace hx224_1 := (HB.out.cell (World.block_lt_of_cell? w _ hx224_1)).trans hx224_1
              replace hx224_2 := (HB.out.cell (World.block_lt_of_cell? w _ hx224_2)).trans hx224_2
              replace hx224_3 := (HB.out.cell (World.block_lt_of_cell? w _ hx224_3)).trans hx224_3
              replace hx224_4 := (HB.out.cell (World.block_lt_of_cell? w _ hx224_4)).trans hx224_4
              have HR224_3 := Aside0.mk hi224_3
              have HC224_3 := Aside0.mk hl224_3
              clear hi224_3 hl224_3
              have HR224_4 := Aside0.mk hi224_4
              have HC224_4 := Aside0.mk hl224_4
              clear hi224_4 hl224_4
              replace p224 := eq_true p224
              replace q224 := eq_true q224
              have p225 : 0 ≤ (0 : Int) := (by omega)
              have q225 : 0 < (l1_2.length : Int) := de_
              obtain ⟨ad225, A225_1, c225_1, A225_2, c225_2, e225, hx225_0, hx225_1, hx225_2, hl225_1, hi225_1, hl225_2, hi225_2⟩ := at_T44 HR1_2.out 0 p225 q225
              have hw225_2 := hx225_2
              (try rw [show ((0 : Int)).toNat = 0 from rfl] at hw225_2)
              (try rw [show 0 * 3 = 0 from rfl] at hw225_2)
              (try rw [Addr.add_zero'] at hw225_2)
              have hw225_1 := hx225_1
              (try rw [show ((0 : Int)).toNat = 0 from rfl] at hw225_1)
              (try rw [show 0 * 3 = 0 from rfl] at hw225_1)
              (try rw [Addr.add_zero'] at hw225_1)
              have hw225_0 := hx225_0
              (try rw [show ((0 : Int)).toNat = 0 from rfl] at hw225_0)
              (try rw [show 0 * 3 = 0 from rfl] at hw225_0)
              (try rw [Addr.add_zero'] at hw225_0)
              cases e225
              have qi225 : (0 < l1_2.length) = True := eq_true (by omega)
              (try rw [show ((0 : Int)).toNat = 0 from rfl] at hx225_0)
              (try rw [show 0 * 3 = 0 from rfl] at hx225_0)
              (try rw [Addr.add_zero'] at hx225_0)
              (try rw [show ((0 : Int)).toNat = 0 from rfl] at hx225_1)
              (try rw [show 0 * 3 = 0 from rfl] at hx225_1)
              (try rw [Addr.add_zero'] at hx225_1)
              (try rw [show ((0 : Int)).toNat = 0 from rfl] at hx225_2)
              (try rw [show 0 * 3 = 0 from rfl] at hx225_2)
              (try rw [Addr.add_zero'] at hx225_2)
              replace hx225_0 := (HB.out.cell (World.block_lt_of_cell? w _ hx225_0)).trans hx225_0
              replace hx225_1 := (HB.out.cell (World.block_lt_of_cell? w _ hx225_1)).trans hx225_1
              replace hx225_2 := (HB.out.cell (World.block_lt_of_cell? w _ hx225_2)).trans hx225_2
              have HR225_1 := Aside0.mk hi225_1
              have HC225_1 := Aside0.mk hl225_1
              clear hi225_1 hl225_1
              have HR225_2 := Aside0.mk hi225_2
              have HC225_2 := Aside0.mk hl225_2
              clear hi225_2 hl225_2
              replace p225 := eq_true p225
              replace q225 := eq_true q225
              refine start_ (n := 11) (S := fun w' => w'.cell? ⟨gb214, 0, none⟩ = some (.int .i64 a0_0) ∧ w'.cell? ⟨gb214, 1, none⟩ = some (.int .i64 a0_1) ∧ w'.cell? ⟨gb214, 2, none⟩ = some (.string a0_2) ∧ w'.cell? ⟨gb214, 3, none⟩ = some (.slice A0_3 l0_3.length c0_3) ∧ w'.cell? ⟨gb214, 4, none⟩ = some (.slice (some ad224) l0_4.length c0_4) ∧ w'.cell? ⟨gb215, 0, none⟩ = some (.int .i64 a1_0) ∧ w'.cell? ⟨gb215, 1, none⟩ = some (.slice A1_1 l1_1.length c1_1) ∧ w'.cell? ⟨gb215, 2, none⟩ = some (.slice (some ad225) l1_2.length c1_2) ∧ w'.cell? (ad224.add ((x7_1).toNat * 5)) = some (.int .i64 ((rd_T30 l0_4 x7_1).f0)) ∧ w'.cell? ⟨(ad224.add ((x7_1).toNat * 5)).block, (ad224.add ((x7_1).toNat * 5)).off + 1, none⟩ = some (.int .i64 ((rd_T30 l0_4 x7_1).f1)) ∧ w'.cell? ⟨(ad224.add ((x7_1).toNat * 5)).block, (ad224.add ((x7_1).toNat * 5)).off + 2, none⟩ = some (.string ((rd_T30 l0_4 x7_1).f2)) ∧ w'.cell? ⟨(ad224.add ((x7_1).toNat * 5)).block, (ad224.add ((x7_1).toNat * 5)).off + 3, none⟩ = some (.slice A224_3 ((rd_T30 l0_4 x7_1).f3).length c224_3) ∧ w'.cell? ⟨(ad224.add ((x7_1).toNat * 5)).block, (ad224.add ((x7_1).toNat * 5)).off + 4, none⟩ = some (.slice A224_4 ((rd_T30 l0_4 x7_1).f4).length c224_4) ∧ w'.cell? ad225 = some (.int .i64 ((rd_T44 l1_2 0).f0)) ∧ w'.cell? ⟨ad225.block, ad225.off + 1, none⟩ = some (.slice A225_1 ((rd_T44 l1_2 0).f1).length c225_1) ∧ w'.cell? ⟨ad225.block, ad225.off + 2, none⟩ = some (.slice A225_2 ((rd_T44 l1_2 0).f2).length c225_2)) (ds := []) #[false, false, false, false, false, false, false, false, false, false, false] (by kernel_rfl) rfl rfl ⟨(blk_cell BK214.out 0).trans rfl, (blk_cell BK214.out 1).trans rfl, (blk_cell BK214.out 2).trans rfl, (blk_cell BK214.out 3).trans rfl, (blk_cell BK214.out 4).trans rfl, (blk_cell BK215.out 0).trans rfl, (blk_cell BK215.out 1).trans rfl, (blk_cell BK215.out 2).trans rfl, ((HB.out.cell (World.block_lt_of_cell? w _ hw224_0)).trans hw224_0), ((HB.out.cell (World.block_lt_of_cell? w _ hw224_1)).trans hw224_1), ((HB.out.cell (World.block_lt_of_cell? w _ hw224_2)).trans hw224_2), ((HB.out.cell (World.block_lt_of_cell? w _ hw224_3)).trans hw224_3), ((HB.out.cell (World.block_lt_of_cell? w _ hw224_4)).trans hw224_4), ((HB.out.cell (World.block_lt_of_cell? w _ hw225_0)).trans hw225_0), ((HB.out.cell (World.block_lt_of_cell? w _ hw225_1)).trans hw225_1), ((HB.out.cell (World.block_lt_of_cell? w _ hw225_2)).trans hw225_2)⟩ (fun hHeld => ?_); refine with_tabW spec_l5Has.tab21 spec_l5Has.bits21 (fun HT_ HW_ => ?_)
              generalize wc.drew = w89 at BK214 BK215 HB HR224_3 HR224_4 HR225_1 HR225_2 hx224_0 hx224_1 hx224_2 hx224_3 hx224_4 hx225_0 hx225_1 hx225_2 hHeld ⊢
              refine pure_ (i := 0) (N := some 90) (v := ?_) (a' := ?_) #[true, false, false, false, false, false, false, false, false, false, false] rfl rfl (any_of HT_.out (by kernel_rfl)) (fun _ _ _ h => h) (Or.inl ⟨by rfl, ?_⟩) ?_ ?_
              rotate_left
              ·intro w'
               go_simp
               with_reducible rfl
              rotate_left
              ·simp only [Act.put, List.setIfInBounds_toArray, List.set_cons_zero, List.set_cons_succ, i64_w, i32_w]
               rfl
              refine pure_ (i := 2) (N := some 92) (v := ?_) (a' := ?_) #[true, false, true, false, false, false, false, false, false, false, false] rfl rfl (any_of HT_.out (by kernel_rfl)) (fun _ _ _ h => h) (Or.inl ⟨by rfl, ?_⟩) ?_ ?_
              rotate_left
              ·intro w'
               go_simp
               with_reducible rfl
              rotate_left
              ·simp only [Act.put, List.setIfInBounds_toArray, List.set_cons_zero, List.set_cons_succ, i64_w, i32_w]
               rfl
              refine pure_ (i := 5) (N := some 95) (v := ?_) (a' := ?_) #[true, false, true, false, false, true, false, false, false, false, false] rfl rfl (any_of HT_.out (by kernel_rfl)) (fun _ _ _ h => h) (Or.inl ⟨by rfl, ?_⟩) ?_ ?_
              rotate_left
              ·intro w'
               go_simp
               with_reducible rfl
              rotate_left
              ·simp only [Act.put, List.setIfInBounds_toArray, List.set_cons_zero, List.set_cons_succ, i64_w, i32_w]
               rfl
              refine take_ (i := 1) (N := some 91) (v := ?_) (a' := ?_) #[true, true, true, false, false, true, false, false, false, false, false] rfl rfl (take_ofW HT_.out HW_.out (by kernel_rfl)) (fun _ _ _ h => h) (Or.inl ⟨by rfl, ?_⟩) hHeld ?_ ?_
              rotate_left
              ·rintro w' ⟨s0, s1, s2, s3, s4, s5, s6, s7, s8, s9, s10, s11, s12, s13, s14, s15⟩
               go_simp
               with_reducible rfl
              rotate_left
              ·simp only [Act.put, List.setIfInBounds_toArray, List.set_cons_zero, List.set_cons_succ, i64_w, i32_w]
               rfl
              refine pure_ (i := 3) (N := some 93) (v := ?_) (a' := ?_) #[true, true, true, true, false, true, false, false, false, false, false] rfl rfl (any_of HT_.out (by kernel_rfl)) (fun _ _ _ h => h) (Or.inl ⟨by rfl, ?_⟩) ?_ ?_
              rotate_left
              ·intro w'
               go_simp
               with_reducible rfl
              rotate_left
              ·simp only [Act.put, List.setIfInBounds_toArray, List.set_cons_zero, List.set_cons_succ, i64_w, i32_w]
               rfl
              refine take_ (i := 4) (N := some 94) (v := ?_) (a' := ?_) #[true, true, true, true, true, true, false, false, false, false, false] rfl rfl (take_ofW HT_.out HW_.out (by kernel_rfl)) (fun _ _ _ h => h) (Or.inl ⟨by rfl, ?_⟩) hHeld ?_ ?_
              rotate_left
              ·rintro w' ⟨s0, s1, s2, s3, s4, s5, s6, s7, s8, s9, s10, s11, s12, s13, s14, s15⟩
               go_simp
               with_reducible rfl
              rotate_left
              ·simp only [Act.put, List.setIfInBounds_toArray, List.set_cons_zero, List.set_cons_succ, i64_w, i32_w]
               rfl
              refine take_ (i := 6) (N := some 96) (v := ?_) (a' := ?_) #[true, true, true, true, true, true, true, false, false, false, false] rfl rfl (take_ofW HT_.out HW_.out (by kernel_rfl)) (fun _ _ _ h => h) (Or.inl ⟨by rfl, ?_⟩) hHeld ?_ ?_
              rotate_left
              ·rintro w' ⟨s0, s1, s2, s3, s4, s5, s6, s7, s8, s9, s10, s11, s12, s13, s14, s15⟩
               go_simp
               with_reducible rfl
              rotate_left
              ·simp only [Act.put, List.setIfInBounds_toArray, List.set_cons_zero, List.set_cons_succ, i64_w, i32_w]
               rfl
              refine pure_ (i := 7) (N := some 97) (v := ?_) (a' := ?_) #[true, true, true, true, true, true, true, true, false, false, false] rfl rfl (any_of HT_.out (by kernel_rfl)) (fun _ _ _ h => h) (Or.inl ⟨by rfl, ?_⟩) ?_ ?_
              rotate_left
              ·intro w'
               go_simp
               with_reducible rfl
              rotate_left
              ·simp only [Act.put, List.setIfInBounds_toArray, List.set_cons_zero, List.set_cons_succ, i64_w, i32_w]
               rfl
              refine take_ (i := 8) (N := some 98) (v := ?_) (a' := ?_) #[true, true, true, true, true, true, true, true, true, false, false] rfl rfl (take_ofW HT_.out HW_.out (by kernel_rfl)) (fun _ _ _ h => h) (Or.inl ⟨by rfl, ?_⟩) hHeld ?_ ?_
              rotate_left
              ·rintro w' ⟨s0, s1, s2, s3, s4, s5, s6, s7, s8, s9, s10, s11, s12, s13, s14, s15⟩
               go_simp
               with_reducible rfl
              rotate_left
              ·simp only [Act.put, List.setIfInBounds_toArray, List.set_cons_zero, List.set_cons_succ, i64_w, i32_w]
               rfl
              refine one_ (i := 9) (N := some 99) #[true, true, true, true, true, true, true, true, true, true, false] rfl rfl (one_of HT_.out (by kernel_rfl)) (by decide) (fun K hK => ?_)
              refine goes_ Try.func68 (by kernel_rfl) rfl #[.agg #[.int .i64 ((rd_T30 l0_4 x7_1).f0), .int .i64 ((rd_T30 l0_4 x7_1).f1), .string ((rd_T30 l0_4 x7_1).f2), .slice A224_3 ((rd_T30 l0_4 x7_1).f3).length c224_3, .slice A224_4 ((rd_T30 l0_4 x7_1).f4).length c224_4], .agg #[.int .i64 ((rd_T44 l1_2 0).f0), .slice A225_1 ((rd_T44 l1_2 0).f1).length c225_1, .slice A225_2 ((rd_T44 l1_2 0).f2).length c225_2]] (by rfl) rfl rfl ma_ ?_
              with_reducible refine (ih kj74 (by have := HK1.out; have := HJ74.out; omega) ((rd_T30 l0_4 x7_1).f0) ((rd_T30 l0_4 x7_1).f1) ((rd_T30 l0_4 x7_1).f2) _ _ ((rd_T30 l0_4 x7_1).f3) _ _ ((rd_T30 l0_4 x7_1).f4) ((rd_T44 l1_2 0).f0) _ _ ((rd_T44 l1_2 0).f1) _ _ ((rd_T44 l1_2 0).f2) false _ ?side1 ?side2 ?side3 ?side4 ?side5 ?side6 ?side7 ?side8 A85.out).mono ?_
              (case side1 => exact C_ (Kd.C_below HR224_3.out HB.out))
              (case side2 => exact HC224_3.out)
              (case side3 => exact C_ (Kd.C_below HR224_4.out HB.out))
              (case side4 => exact HC224_4.out)
              (case side5 => exact C_ (Kd.C_below HR225_1.out HB.out))
              (case side6 => exact HC225_1.out)
              (case side7 => exact C_ (Kd.C_below HR225_2.out HB.out))
              (case side8 => exact HC225_2.out)
              rintro e w90 ⟨rfl, hb⟩
              refine ⟨_, rfl, ?_⟩
              replace BK214 := Aside0.mk (blk_below (K_ BK214.out) hb)
              replace BK215 := Aside0.mk (blk_below (K_ BK215.out) hb)
              replace HB := Aside0.mk (below_step (B2_ HB.out GE214.out GE215.out) hb)
              (try clear hb)
              (try clear hb2)
              (try clear hk)
              (try clear hi)
              refine hK.out _ _ ⟨(blk_cell BK214.out 0).trans rfl, (blk_cell BK214.out 1).trans rfl, (blk_cell BK214.out 2).trans rfl, (blk_cell BK214.out 3).trans rfl, (blk_cell BK214.out 4).trans rfl, (blk_cell BK215.out 0).trans rfl, (blk_cell BK215.out 1).trans rfl, (blk_cell BK215.out 2).trans rfl, ((HB.out.cell (World.block_lt_of_cell? w _ hw224_0)).trans hw224_0), ((HB.out.cell (World.block_lt_of_cell? w _ hw224_1)).trans hw224_1), ((HB.out.cell (World.block_lt_of_cell? w _ hw224_2)).trans hw224_2), ((HB.out.cell (World.block_lt_of_cell? w _ hw224_3)).trans hw224_3), ((HB.out.cell (World.block_lt_of_cell? w _ hw224_4)).trans hw224_4), ((HB.out.cell (World.block_lt_of_cell? w _ hw225_0)).trans hw225_0), ((HB.out.cell (World.block_lt_of_cell? w _ hw225_1)).trans hw225_1), ((HB.out.cell (World.block_lt_of_cell? w _ hw225_2)).trans hw225_2)⟩ (fun hHeld => ?_)
              clear hK K
              refine norm_ (a' := ?_) ?_ ?_
              rotate_left
              ·show Act.put _ (some 99) _ = _
               simp only [Act.put, List.setIfInBounds_toArray, List.set_cons_zero, List.set_cons_succ, i64_w, i32_w]
               rfl
              refine pure_ (i := 10) (N := some 100) (v := ?_) (a' := ?_) #[true, true, true, true, true, true, true, true, true, true, true] rfl rfl (any_of HT_.out (by kernel_rfl)) (fun _ _ _ h => h) (Or.inl ⟨by rfl, ?_⟩) ?_ ?_
              rotate_left
              ·intro w'
               go_simp
               with_reducible rfl
              rotate_left
              ·simp only [Act.put, List.setIfInBounds_toArray, List.set_cons_zero, List.set_cons_succ, i64_w, i32_w]
               rfl
              refine done_ (done_of HT_.out (by kernel_rfl)) ?_
              try go_wp2
              go_ret
              exact ⟨er_, B2_ HB.out GE214.out GE215.out⟩
            ·rw [if_neg c84] at H
             exact absurd H (by simp)
           ·rw [if_neg c83] at H
            exact absurd H (by simp)
          ·rw [if_neg c82] at H
           exact absurd H (by simp)
         ·replace c81 := Bool.eq_false_iff.mpr c81
          subst c81
          have H1 : (some (a0_0 == 5)) = some r := by rw [if_neg (show ¬ (false = true) by decide)] at H; exact H
          clear H
          have H := H1
          clear H1
          obtain rfl := Option.some.inj H
          have hnb91 := NB214_215.out
          have hnc91 := NB215_214.out
          obtain ⟨hcz92_0, hcz92_1, hcz92_2, hcz92_3, hcz92_4, hfz92_0, hfz92_1, hfz92_2, hfz92_3, hfz92_4⟩ := box5_ BK214.out
          go_wp2
          go_ret
          exact ⟨er_, B2_ HB.out GE214.out GE215.out⟩

end Go.Proofs.Ytmelflbbeecjfaa.XB
