-- Written by myprint.py, a program of this session, which runs the kit's printer with changes of its own. Lean checks it.
import Derived.Test.YtibcndpadbipmaaXFx0
import Derived.Test.YtibcndpadbipmaaXFx1
import Derived.Test.YtibcndpadbipmaaXFx2
import Derived.Test.YtibcndpadbipmaaXFx3
import Derived.Test.YtibcndpadbipmaaXFx4
import Derived.Test.YtibcndpadbipmaaXFx5
import Derived.Test.YtibcndpadbipmaaXFx6
import Derived.Test.YtibcndpadbipmaaXFx8
import Derived.Test.YtibcndpadbipmaaXFx9
import Derived.Test.YtibcndpadbipmaaXFx10
import Derived.Test.YtibcndpadbipmaaSq
namespace Go.Proofs.Ytibcndpadbipmaa.XF
open Go.RowKit Go.Proofs.YtibcndpadbipmaaW.PrintWords Go.Proofs.YtibcndpadbipmaaW.PrintLast Go.Proofs.YtibcndpadbipmaaW.PrintMore Go.Proofs.Ytibcndpadbipmaa.Sq
attribute [local go_sem] max2_int min2_int max_two min_two max_three min_three max_four min_four   -- for this text's walks alone
set_option linter.unusedVariables false
set_option linter.unusedSimpArgs false

/-! ### laws_FnOptics: function 9 -/
def laws_FnOptics.l0 : Nat → List Int → Int → Int → Int → Int → ByteArray → Int → List (S29) → Option (Bool)
 | 0, _, _, _, _, _, _, _, _ => none
 | k + 1, x0, x4, x5, x6, x353000, x353001, x353002, x353003 => if x6 < (x353003.length : Int) then (if 0 ≤ x6 then ((impl_SizeOf.f k ((rd_T29 x353003 x6).f0) ((rd_T29 x353003 x6).f1) ((rd_T29 x353003 x6).f2) ((rd_T29 x353003 x6).f3)).bind fun t354 => ((impl_DepthOf.f k ((rd_T29 x353003 x6).f0) ((rd_T29 x353003 x6).f1) ((rd_T29 x353003 x6).f2) ((rd_T29 x353003 x6).f3)).bind fun t356 => (if t356 > x5 then ((impl_DepthOf.f k ((rd_T29 x353003 x6).f0) ((rd_T29 x353003 x6).f1) ((rd_T29 x353003 x6).f2) ((rd_T29 x353003 x6).f3)).bind fun t358 => (laws_FnOptics.l0 k x0 (wrap64 (x4 + t354)) t358 (wrap64 (x6 + 1)) x353000 x353001 x353002 x353003)) else (laws_FnOptics.l0 k x0 (wrap64 (x4 + t354)) x5 (wrap64 (x6 + 1)) x353000 x353001 x353002 x353003)))) else (none)) else ((spec_DrawEqualOptic.f k x0).bind fun bt359 => ((spec_DrawArityOf.f k x0).bind fun t373 => ((impl_SizeOf.f k x353000 x353001 x353002 x353003).bind fun t374 => (if t374 = x4 then ((impl_DepthOf.f k x353000 x353001 x353002 x353003).bind fun t375 => (if t375 = (wrap64 (x5 + 1)) then ((impl_IsOptic.f k x353000 x353001 x353002 x353003).bind fun t376 => ((spec_IsOptic.f k x353000 x353001 x353002 x353003).bind fun t377 => (if (t376 == t377) = true then ((impl_EqualOptic.f k bt359.1 bt359.2.1 bt359.2.2.1 bt359.2.2.2.1 bt359.2.2.2.2.1 bt359.2.2.2.2.2.1 bt359.2.2.2.2.2.2.1 bt359.2.2.2.2.2.2.2).bind fun t378 => ((spec_EqualOptic.f k bt359.1 bt359.2.1 bt359.2.2.1 bt359.2.2.2.1 bt359.2.2.2.2.1 bt359.2.2.2.2.2.1 bt359.2.2.2.2.2.2.1 bt359.2.2.2.2.2.2.2).bind fun t379 => (if (t378 == t379) = true then ((impl_ArityOf.f k t373).bind fun t380 => ((spec_ArityOf.f k t373).bind fun t381 => (some (t380 == t381)))) else (some false)))) else (some false)))) else (some false))) else (some false)))))
def laws_FnOptics.f (k : Nat) (l0 : List Int) : Option (Bool) := (laws_big.f l0).bind fun t345 => (if t345 = true then (some true) else ((spec_DrawIsOptic.f k l0).bind fun bt346 => (laws_FnOptics.l0 k l0 1 0 0 bt346.1 bt346.2.1 bt346.2.2.1 bt346.2.2.2)))
theorem laws_FnOptics.mono_l : ∀ k, (∀ y0 y1 y2 y3 y4 y5 y6 y7, LeO (laws_FnOptics.l0 k y0 y1 y2 y3 y4 y5 y6 y7) (laws_FnOptics.l0 (k + 1) y0 y1 y2 y3 y4 y5 y6 y7))
 | 0 => fun _ _ _ _ _ _ _ _ r h => by simp [laws_FnOptics.l0] at h
 | k + 1 => by
  have ih0 := laws_FnOptics.mono_l k
  ·intro y0 y1 y2 y3 y4 y5 y6 y7
   unfold laws_FnOptics.l0
   repeat' first
   | (with_reducible exact ih0 _ _ _ _ _ _ _ _)
   | (with_reducible exact impl_ArityOf.mono _ _)
   | (with_reducible exact impl_DepthOf.mono _ _ _ _ _)
   | (with_reducible exact impl_EqualOptic.mono _ _ _ _ _ _ _ _ _)
   | (with_reducible exact impl_IsOptic.mono _ _ _ _ _)
   | (with_reducible exact impl_SizeOf.mono _ _ _ _ _)
   | (with_reducible exact spec_ArityOf.mono _ _)
   | (with_reducible exact spec_DrawArityOf.mono _ _)
   | (with_reducible exact spec_DrawEqualOptic.mono _ _)
   | (with_reducible exact spec_DrawIsOptic.mono _ _)
   | (with_reducible exact spec_EqualOptic.mono _ _ _ _ _ _ _ _ _)
   | (with_reducible exact spec_IsOptic.mono _ _ _ _ _)
   | (with_reducible exact LeO.refl _)
   | (with_reducible exact LeO.none _)
   | (with_reducible refine LeO.ite ?_ ?_)
   | (with_reducible refine LeO.bind ?_ (fun _ => ?_))
   | exact ih0 _ _ _ _ _ _ _ _
   | exact impl_ArityOf.mono _ _
   | exact impl_DepthOf.mono _ _ _ _ _
   | exact impl_EqualOptic.mono _ _ _ _ _ _ _ _ _
   | exact impl_IsOptic.mono _ _ _ _ _
   | exact impl_SizeOf.mono _ _ _ _ _
   | exact spec_ArityOf.mono _ _
   | exact spec_DrawArityOf.mono _ _
   | exact spec_DrawEqualOptic.mono _ _
   | exact spec_DrawIsOptic.mono _ _
   | exact spec_EqualOptic.mono _ _ _ _ _ _ _ _ _
   | exact spec_IsOptic.mono _ _ _ _ _
   | exact LeO.none _
   | refine LeO.ite ?_ ?_
   | refine LeO.bind ?_ (fun _ => ?_)
theorem laws_FnOptics.mono : ∀ a0 k, LeO (laws_FnOptics.f k a0) (laws_FnOptics.f (k + 1) a0) := by
 intro a0 k
 have ih0 := laws_FnOptics.mono_l k
 unfold laws_FnOptics.f
 repeat' first
   | (with_reducible exact ih0 _ _ _ _ _ _ _ _)
   | (with_reducible exact impl_ArityOf.mono _ _)
   | (with_reducible exact impl_DepthOf.mono _ _ _ _ _)
   | (with_reducible exact impl_EqualOptic.mono _ _ _ _ _ _ _ _ _)
   | (with_reducible exact impl_IsOptic.mono _ _ _ _ _)
   | (with_reducible exact impl_SizeOf.mono _ _ _ _ _)
   | (with_reducible exact spec_ArityOf.mono _ _)
   | (with_reducible exact spec_DrawArityOf.mono _ _)
   | (with_reducible exact spec_DrawEqualOptic.mono _ _)
   | (with_reducible exact spec_DrawIsOptic.mono _ _)
   | (with_reducible exact spec_EqualOptic.mono _ _ _ _ _ _ _ _ _)
   | (with_reducible exact spec_IsOptic.mono _ _ _ _ _)
   | (with_reducible exact LeO.refl _)
   | (with_reducible exact LeO.none _)
   | (with_reducible refine LeO.ite ?_ ?_)
   | (with_reducible refine LeO.bind ?_ (fun _ => ?_))
   | exact ih0 _ _ _ _ _ _ _ _
   | exact impl_ArityOf.mono _ _
   | exact impl_DepthOf.mono _ _ _ _ _
   | exact impl_EqualOptic.mono _ _ _ _ _ _ _ _ _
   | exact impl_IsOptic.mono _ _ _ _ _
   | exact impl_SizeOf.mono _ _ _ _ _
   | exact spec_ArityOf.mono _ _
   | exact spec_DrawArityOf.mono _ _
   | exact spec_DrawEqualOptic.mono _ _
   | exact spec_DrawIsOptic.mono _ _
   | exact spec_EqualOptic.mono _ _ _ _ _ _ _ _ _
   | exact spec_IsOptic.mono _ _ _ _ _
   | exact LeO.none _
   | refine LeO.ite ?_ ?_
   | refine LeO.bind ?_ (fun _ => ?_)
def laws_FnOptics.T14 : Bool × List (List Nat × List Nat) := (true, [([], []), ([0], [0]), ([], []), ([1, 2], [1, 2]), ([3, 1], [3]), ([4], [4]), ([5, 4, 4], [4, 5]), ([4], [4]), ([7, 4], [4, 7]), ([6, 8, 4], [4, 6, 8]), ([4, 9], [4, 9]), ([10, 6], [10]), ([11], [11]), ([12, 11, 11], [11, 12]), ([11], [11]), ([14, 13, 11], [11, 14]), ([13, 15, 11], [11, 13, 15]), ([11, 16], [11, 16]), ([17, 15], [17]), ([18], [18]), ([18], [18]), ([19, 20, 18, 18], [18, 19, 20]), ([18], [18]), ([18], [18]), ([22, 23, 21, 18], [18, 22, 23]), ([21, 24, 18], [18, 21, 24]), ([18, 25], [18, 25]), ([26, 24], [26]), ([27], [27]), ([28, 27, 27], [27, 28]), ([27], [27]), ([30, 29, 27], [27, 30]), ([29, 31, 27], [27, 29, 31]), ([27, 32], [27, 32]), ([33, 31, 0, 1, 2, 3, 4, 5, 6, 7, 8, 9, 10, 11, 12, 13, 14, 15, 16, 17, 18, 19, 20, 21, 22, 23, 24, 25, 26, 27, 28, 29, 30, 31, 32, 33], [33])])
def laws_FnOptics.B14 : List Nat := [0, 1, 0, 7, 15, 31, 63, 31, 159, 511, 1023, 2047, 4095, 8191, 4095, 32767, 65535, 131071, 262143, 524287, 524287, 2097151, 524287, 524287, 16777215, 33554431, 67108863, 134217727, 268435455, 536870911, 268435455, 2147483647, 4294967295, 8589934591, 17179869183]
theorem laws_FnOptics.tab14 : rtab .any (opsOf Try.f9 14) = laws_FnOptics.T14 := by kernel_rfl
theorem laws_FnOptics.bits14 : waitsOk laws_FnOptics.T14.2 laws_FnOptics.B14 = true := by kernel_rfl
set_option maxHeartbeats 8000000 in
set_option maxRecDepth 100000 in
theorem laws_FnOptics.calls (k : Nat) (A0 : Option Addr) (c0 : Nat) (l0 : List Int) (r : Bool) (w : World) (hr0 : Kd.C (Kd.int .u8) w A0 l0.length l0) (hc0 : l0.length ≤ c0) (h : laws_FnOptics.f k l0 = some r) :
  Calls Try.prog 9 #[.slice A0 l0.length c0] w fun e w' => e = .returned (.bool r) ∧ Below w.heap.size w w' := by
 have hu29 := Try.underlying29
 have HR0 := Aside0.mk hr0
 have HC0 := Aside0.mk hc0
 clear hr0 hc0
 have HB := Aside0.mk (Below.refl w.heap.size w)
 have H : ((laws_big.f l0).bind fun t345 => (if t345 = true then (some true) else ((spec_DrawIsOptic.f k l0).bind fun bt346 => (laws_FnOptics.l0 k l0 1 0 0 bt346.1 bt346.2.1 bt346.2.2.1 bt346.2.2.2)))) = some r := h
 clear h
 replace H := Option.bind_eq_some_iff.mp H
 obtain ⟨t345, A20, H⟩ := H
 replace H : (if t345 = true then (some true) else ((spec_DrawIsOptic.f k l0).bind fun bt346 => (laws_FnOptics.l0 k l0 1 0 0 bt346.1 bt346.2.1 bt346.2.2.1 bt346.2.2.2))) = some r := H
 have A2 := Aside0.mk A20
 clear A20
 have HC3 := Aside0.mk H
 clear H
 go_enter Try.func9, Try.ntmps9
 go_upto_if 11 with (first | ((with_reducible refine gate_callee (f := 28) rfl ?_); refine goesL_ (some 11) rfl rfl Try.func28 (by kernel_rfl) rfl #[.slice A0 l0.length c0] rfl ma_ ?_; (with_reducible refine (laws_big.calls _ _ l0 t345 _ ?side1 ?side2 A2.out).mono ?_); (case side1 => exact C_ HR0.out); (case side2 => exact HC0.out); rintro e w' ⟨rfl, ⟨nd, rfl⟩⟩; refine ⟨_, rfl, ?_⟩))
 (try simp only [Act.put, List.setIfInBounds_toArray, List.set_cons_zero, List.set_cons_succ])
 have H := HC3.out
 clear HC3
 by_cases c4 : t345 = true
 ·subst c4
  have H1 : (some true) = some r := by rw [if_pos rfl] at H; exact H
  clear H
  have H := H1
  clear H1
  obtain rfl := Option.some.inj H
  go_wp2
  go_ret
  exact ⟨er_, B0_ HB.out⟩
 ·replace c4 := Bool.eq_false_iff.mpr c4
  subst c4
  have H1 : ((spec_DrawIsOptic.f k l0).bind fun bt346 => (laws_FnOptics.l0 k l0 1 0 0 bt346.1 bt346.2.1 bt346.2.2.1 bt346.2.2.2)) = some r := by rw [if_neg (show ¬ (false = true) by decide)] at H; exact H
  clear H
  have H := H1
  clear H1
  replace H := Option.bind_eq_some_iff.mp H
  obtain ⟨⟨t346, t347, t348, t349⟩, A50, H⟩ := H
  replace H : (laws_FnOptics.l0 k l0 1 0 0 t346 t347 t348 t349) = some r := H
  have A5 := Aside0.mk A50
  clear A50
  have H' := Aside0.mk H
  clear H
  go_wp2_with (first | ((with_reducible refine gate_callee (f := 29) rfl ?_); refine goesL_ (some 13) rfl rfl Try.func29 (by kernel_rfl) rfl #[.slice A0 l0.length c0] rfl ma_ ?_; (with_reducible refine (spec_DrawIsOptic.calls k _ _ l0 t346 t347 t348 t349 _ ?side1 ?side2 A5.out).mono ?_); (case side1 => exact C_ (Kd.C_below HR0.out HB.out)); (case side2 => exact HC0.out); rintro e w6 ⟨v350, rfl, ho0, hb⟩; refine ⟨_, rfl, ?_⟩; have HO351 := Aside0.mk (Kd.N_lower (Kd.N_mono (ok' := fun k_ => True) ho0 (fun k_ hk_ => trivial)) (below_size (B0_ HB.out))); replace HB := Aside0.mk (below_step (B0_ HB.out) hb); (try clear hb); (try clear hb2); (try clear hk); (try clear hi); (try clear ho0)) | ((with_reducible refine gate_dst (N := 3) rfl ?_); refine box_event ?hg (N := 3) ?hd (cs := #[.int .i64 0, .string (⟨#[]⟩ : ByteArray), .int .i64 0, .slice none 0 0]) (t := 29) ?hr ?_; (case hd => rfl); (case hg => rfl); (case hr => first | (go_simp; done) | (go_simp; rfl)); intro gb352 hg w7 hbox hb; replace HO351 := Aside0.mk (Kd.N_below (Kd.N_elderB (N_ HO351.out) gb352 (Nat.le_of_eq hg.symm)) hb); have BK352 := Aside0.mk (hbox); have GW352 := Aside0.mk ((by rw [hg]; exact (below_size (B0_ HB.out)) : w.heap.size ≤ gb352)); have GE352 := Aside0.mk ((by rw [hg]; exact (below_size (B0_ HB.out)) : w.heap.size ≤ gb352)); replace HB := Aside0.mk (below_step (B0_ HB.out) hb); clear hb hbox hg; obtain ⟨hcz8_0, hcz8_1, hcz8_2, hcz8_3, hfz8_0, hfz8_1, hfz8_2, hfz8_3⟩ := box4_ BK352.out; obtain ⟨Ao9, co9, eo9⟩ := Kd.N_slice HO351.out; subst eo9))
  go_loopg [4, 5, 6] k (fun kq v4 v5 v6 w' => ∃ (x4_1 : Int) (x5_1 : Int) (x6_1 : Int), v4 = .int .i64 x4_1 ∧ v5 = .int .i64 x5_1 ∧ v6 = .int .i64 x6_1 ∧ Aside0 (laws_FnOptics.l0 kq l0 x4_1 x5_1 x6_1 t346 t347 t348 t349 = some r) ∧ Aside0 (kq ≤ k) ∧ Aside0 (Kd.N k29 29 w' w.heap.size (fun k_ => k_ ≠ gb352) (.slice Ao9 t349.length co9) t349) ∧ Aside0 (w'.heap[gb352]? = some (.cells #[.int .i64 t346, .string t347, .int .i64 t348, (.slice Ao9 t349.length co9)] 29 (0, 0))) ∧ Aside0 (Below w.heap.size w w'))
  case atStart => exact ⟨(1), (0), (0), q_, q_, q_, H', ⟨Nat.le_refl _⟩, ⟨by (with_reducible repeat (first | apply Kd.N_alloc | apply Kd.N_drewN | apply Kd.N_drew)); exact Kd.N_mono (Kd.N_far (p := ⟨gb352, 3, none⟩) (Kd.N_far (p := ⟨gb352, 2, none⟩) (Kd.N_far (p := ⟨gb352, 1, none⟩) (Kd.N_far (p := ⟨gb352, 0, none⟩) (Kd.N_mono HO351.out (fun k_ hk => (⟨hk, hk.2⟩ : _ ∧ k_ ≠ gb352))) (fun _ hk => hk.2) (.int .i64 t346)) (fun _ hk => hk.2) (.string t347)) (fun _ hk => hk.2) (.int .i64 t348)) (fun _ hk => hk.2) (.slice Ao9 t349.length co9)) (fun _ hk => hk.1.2)⟩, ⟨by (with_reducible repeat (first | refine blk_drewN ?_ _ | refine blk_drew ?_ | refine blk_alloc ?_ _)); refine blk_put (cs := #[.int .i64 t346, .string t347, .int .i64 t348, .slice none 0 0]) ?_ 3 _ rfl; (with_reducible repeat (first | refine blk_drewN ?_ _ | refine blk_drew ?_ | refine blk_alloc ?_ _)); refine blk_put (cs := #[.int .i64 t346, .string t347, .int .i64 0, .slice none 0 0]) ?_ 2 _ rfl; (with_reducible repeat (first | refine blk_drewN ?_ _ | refine blk_drew ?_ | refine blk_alloc ?_ _)); refine blk_put (cs := #[.int .i64 t346, .string (⟨#[]⟩ : ByteArray), .int .i64 0, .slice none 0 0]) ?_ 1 _ rfl; (with_reducible repeat (first | refine blk_drewN ?_ _ | refine blk_drew ?_ | refine blk_alloc ?_ _)); refine blk_put (cs := #[.int .i64 0, .string (⟨#[]⟩ : ByteArray), .int .i64 0, .slice none 0 0]) ?_ 0 _ rfl; (with_reducible repeat (first | refine blk_drewN ?_ _ | refine blk_drew ?_ | refine blk_alloc ?_ _)); exact BK352.out⟩, ⟨B1_ HB.out GE352.out⟩⟩
  case round =>
   clear H'
   try clear c4
   try clear hcz8_0
   try clear hcz8_1
   try clear hcz8_2
   try clear hcz8_3
   try clear hfz8_0
   try clear hfz8_1
   try clear hfz8_2
   try clear hfz8_3
   obtain ⟨x4_1, x5_1, x6_1, rfl, rfl, rfl, HA, HK1, HO_353003, BK352, HB⟩ := hrel
   cases gk with
   | zero => exact absurd HA.out (by simp [laws_FnOptics.l0])
   | succ k1 =>
    have H := HA.out
    clear HA
    simp only [laws_FnOptics.l0] at H
    by_cases c10 : x6_1 < (t349.length : Int)
    ·rw [if_pos c10] at H
     have c10b0 : decide (x6_1 < (t349.length : Int)) = true := decide_eq_true c10
     clear c10
     (first | rw [c10b0] | (simp only [i64_w, i32_w]; rw [c10b0]) | skip)
     by_cases c11 : 0 ≤ x6_1
     ·rw [if_pos c11] at H
      have c11b0 : decide (0 ≤ x6_1) = true := decide_eq_true c11
      clear c11
      replace H := Option.bind_eq_some_iff.mp H
      obtain ⟨t354, A120, H⟩ := H
      replace H : ((impl_DepthOf.f k1 ((rd_T29 t349 x6_1).f0) ((rd_T29 t349 x6_1).f1) ((rd_T29 t349 x6_1).f2) ((rd_T29 t349 x6_1).f3)).bind fun t356 => (if t356 > x5_1 then ((impl_DepthOf.f k1 ((rd_T29 t349 x6_1).f0) ((rd_T29 t349 x6_1).f1) ((rd_T29 t349 x6_1).f2) ((rd_T29 t349 x6_1).f3)).bind fun t358 => (laws_FnOptics.l0 k1 l0 (wrap64 (x4_1 + t354)) t358 (wrap64 (x6_1 + 1)) t346 t347 t348 t349)) else (laws_FnOptics.l0 k1 l0 (wrap64 (x4_1 + t354)) x5_1 (wrap64 (x6_1 + 1)) t346 t347 t348 t349))) = some r := H
      have A12 := Aside0.mk A120
      clear A120
      replace H := Option.bind_eq_some_iff.mp H
      obtain ⟨t356, A130, H⟩ := H
      replace H : (if t356 > x5_1 then ((impl_DepthOf.f k1 ((rd_T29 t349 x6_1).f0) ((rd_T29 t349 x6_1).f1) ((rd_T29 t349 x6_1).f2) ((rd_T29 t349 x6_1).f3)).bind fun t358 => (laws_FnOptics.l0 k1 l0 (wrap64 (x4_1 + t354)) t358 (wrap64 (x6_1 + 1)) t346 t347 t348 t349)) else (laws_FnOptics.l0 k1 l0 (wrap64 (x4_1 + t354)) x5_1 (wrap64 (x6_1 + 1)) t346 t347 t348 t349)) = some r := H
      have A13 := Aside0.mk A130
      clear A130
      by_cases c14 : t356 > x5_1
      ·rw [if_pos c14] at H
       have c14b0 : decide (x5_1 < t356) = true := decide_eq_true c14
       clear c14
       replace H := Option.bind_eq_some_iff.mp H
       obtain ⟨t358, A150, H⟩ := H
       replace H : (laws_FnOptics.l0 k1 l0 (wrap64 (x4_1 + t354)) t358 (wrap64 (x6_1 + 1)) t346 t347 t348 t349) = some r := H
       have A15 := Aside0.mk A150
       clear A150
       have H' := Aside0.mk H
       clear H
       obtain ⟨hcz16_0, hcz16_1, hcz16_2, hcz16_3, hfz16_0, hfz16_1, hfz16_2, hfz16_3⟩ := box4_ BK352.out
       have p353 : 0 ≤ (x6_1 : Int) := de_
       have q353 : x6_1 < (t349.length : Int) := de_
       obtain ⟨ad353, A353_3, c353_3, e353, hx353_0, hx353_1, hx353_2, hx353_3, hl353_3, hi353_3⟩ := at_T29 (Kd.N_reads' HO_353003.out).2.2 x6_1 p353 q353
       cases e353
       obtain ⟨ce353, hce353, hMe353, hcc353⟩ := Kd.N_get HO_353003.out z29 x6_1 p353 (by first | exact q353 | exact de_ | (have e_ := (Kd.N_reads' HO_353003.out).1; omega))
       obtain ⟨ua353_3, uc353_3, rfl, ul353_3, ge353_3⟩ := k29_openF hMe353
       have hv353_3 := hcc353 3 _ rfl
       rw [add_field _ _ 3 (by omega)] at hv353_3
       replace hv353_3 := Option.some.inj (hv353_3.symm.trans hx353_3)
       injection hv353_3 with hva_ hvn_ hvc_
       rw [hva_] at ge353_3
       rw [hvc_] at ul353_3
       have HL353_3 := Aside0.mk (show Kd.V k29 29 _ w.heap.size _ _ ((rd_T29 t349 x6_1).f3) from Kd.V_mk ul353_3 ge353_3)
       clear hva_ hvn_ hvc_ ge353_3 ul353_3
       clear hcc353 hce353
       have HR353_3 := Aside0.mk hi353_3
       have HC353_3 := Aside0.mk hl353_3
       clear hi353_3 hl353_3
       replace p353 := eq_true p353
       replace q353 := eq_true q353
       go_wp2_with (first | ((with_reducible refine gate_callee (f := 16) rfl ?_); refine goesL_ (some 27) rfl rfl Try.func16 (by kernel_rfl) rfl #[.agg #[.int .i64 ((rd_T29 t349 x6_1).f0), .string ((rd_T29 t349 x6_1).f1), .int .i64 ((rd_T29 t349 x6_1).f2), .slice A353_3 ((rd_T29 t349 x6_1).f3).length c353_3]] rfl ma_ ?_; (with_reducible refine (impl_SizeOf.calls k1 ((rd_T29 t349 x6_1).f0) ((rd_T29 t349 x6_1).f1) ((rd_T29 t349 x6_1).f2) _ _ ((rd_T29 t349 x6_1).f3) t354 _ ?side1 ?side2 A12.out).mono ?_); (case side1 => repeat (first | exact (by repeat (first | (with_reducible exact HR353_3.out) | (with_reducible refine Kd.C_alloc ?_ _) | (with_reducible refine Kd.C_drewN ?_ _) | (with_reducible refine Kd.C_drew ?_) | exact HR353_3.out)) | (with_reducible refine Kd.C_alloc ?_ _) | (with_reducible refine Kd.C_drewN ?_ _) | (with_reducible refine Kd.C_drew ?_))); (case side2 => exact HC353_3.out); rintro e w17 ⟨rfl, hb⟩; refine ⟨_, rfl, ?_⟩; replace HO_353003 := Aside0.mk (Kd.N_below (N_ HO_353003.out) hb); replace HL353_3 := Aside0.mk (Kd.V_below (V_ HL353_3.out) hb); replace BK352 := Aside0.mk (blk_below (K_ BK352.out) hb); replace HR353_3 := Aside0.mk (Kd.C_below (by repeat (first | (with_reducible exact HR353_3.out) | (with_reducible refine Kd.C_alloc ?_ _) | (with_reducible refine Kd.C_drewN ?_ _) | (with_reducible refine Kd.C_drew ?_) | exact HR353_3.out)) hb); replace HB := Aside0.mk (below_step (B1_ HB.out GE352.out) hb); (try clear hb); (try clear hb2); (try clear hk); (try clear hi); obtain ⟨hcz18_0, hcz18_1, hcz18_2, hcz18_3, hfz18_0, hfz18_1, hfz18_2, hfz18_3⟩ := box4_ BK352.out; have p355 : 0 ≤ (x6_1 : Int) := de_; have q355 : x6_1 < (t349.length : Int) := de_; obtain ⟨ad355, A355_3, c355_3, e355, hx355_0, hx355_1, hx355_2, hx355_3, hl355_3, hi355_3⟩ := at_T29 (Kd.N_reads' HO_353003.out).2.2 x6_1 p355 q355; obtain rfl : ad353 = ad355 := (by injection e355); obtain ⟨ce355, hce355, hMe355, hcc355⟩ := Kd.N_get HO_353003.out z29 x6_1 p355 (by first | exact q355 | exact de_ | (have e_ := (Kd.N_reads' HO_353003.out).1; omega)); obtain ⟨ua355_3, uc355_3, rfl, ul355_3, ge355_3⟩ := k29_openF hMe355; have hv355_3 := hcc355 3 _ rfl; rw [add_field _ _ 3 (by omega)] at hv355_3; replace hv355_3 := Option.some.inj (hv355_3.symm.trans hx355_3); injection hv355_3 with hva_ hvn_ hvc_; rw [hva_] at ge355_3; rw [hvc_] at ul355_3; have HL355_3 := Aside0.mk (show Kd.V k29 29 _ w.heap.size _ _ ((rd_T29 t349 x6_1).f3) from Kd.V_mk ul355_3 ge355_3); clear hva_ hvn_ hvc_ ge355_3 ul355_3; clear hcc355 hce355; have HR355_3 := Aside0.mk hi355_3; have HC355_3 := Aside0.mk hl355_3; clear hi355_3 hl355_3; replace p355 := eq_true p355; replace q355 := eq_true q355) | ((with_reducible refine gate_callee (f := 19) rfl ?_); refine goesL_ (some 34) rfl rfl Try.func19 (by kernel_rfl) rfl #[.agg #[.int .i64 ((rd_T29 t349 x6_1).f0), .string ((rd_T29 t349 x6_1).f1), .int .i64 ((rd_T29 t349 x6_1).f2), .slice A355_3 ((rd_T29 t349 x6_1).f3).length c355_3]] rfl ma_ ?_; (with_reducible refine (impl_DepthOf.calls k1 ((rd_T29 t349 x6_1).f0) ((rd_T29 t349 x6_1).f1) ((rd_T29 t349 x6_1).f2) _ _ ((rd_T29 t349 x6_1).f3) t356 _ ?side1 ?side2 A13.out).mono ?_); (case side1 => repeat (first | exact (by repeat (first | (with_reducible exact HR355_3.out) | (with_reducible refine Kd.C_alloc ?_ _) | (with_reducible refine Kd.C_drewN ?_ _) | (with_reducible refine Kd.C_drew ?_) | exact HR355_3.out)) | (with_reducible refine Kd.C_alloc ?_ _) | (with_reducible refine Kd.C_drewN ?_ _) | (with_reducible refine Kd.C_drew ?_))); (case side2 => exact HC355_3.out); rintro e w19 ⟨rfl, hb⟩; refine ⟨_, rfl, ?_⟩; replace HO_353003 := Aside0.mk (Kd.N_below (N_ HO_353003.out) hb); replace HL353_3 := Aside0.mk (Kd.V_below (V_ HL353_3.out) hb); replace HL355_3 := Aside0.mk (Kd.V_below (V_ HL355_3.out) hb); replace BK352 := Aside0.mk (blk_below (K_ BK352.out) hb); replace HR353_3 := Aside0.mk (Kd.C_below (by repeat (first | (with_reducible exact HR353_3.out) | (with_reducible refine Kd.C_alloc ?_ _) | (with_reducible refine Kd.C_drewN ?_ _) | (with_reducible refine Kd.C_drew ?_) | exact HR353_3.out)) hb); replace HR355_3 := Aside0.mk (Kd.C_below (by repeat (first | (with_reducible exact HR355_3.out) | (with_reducible refine Kd.C_alloc ?_ _) | (with_reducible refine Kd.C_drewN ?_ _) | (with_reducible refine Kd.C_drew ?_) | exact HR355_3.out)) hb); replace HB := Aside0.mk (below_step (B1_ HB.out GE352.out) hb); (try clear hb); (try clear hb2); (try clear hk); (try clear hi); obtain ⟨hcz20_0, hcz20_1, hcz20_2, hcz20_3, hfz20_0, hfz20_1, hfz20_2, hfz20_3⟩ := box4_ BK352.out; have p357 : 0 ≤ (x6_1 : Int) := de_; have q357 : x6_1 < (t349.length : Int) := de_; obtain ⟨ad357, A357_3, c357_3, e357, hx357_0, hx357_1, hx357_2, hx357_3, hl357_3, hi357_3⟩ := at_T29 (Kd.N_reads' HO_353003.out).2.2 x6_1 p357 q357; obtain rfl : ad353 = ad357 := (by injection e357); obtain ⟨ce357, hce357, hMe357, hcc357⟩ := Kd.N_get HO_353003.out z29 x6_1 p357 (by first | exact q357 | exact de_ | (have e_ := (Kd.N_reads' HO_353003.out).1; omega)); obtain ⟨ua357_3, uc357_3, rfl, ul357_3, ge357_3⟩ := k29_openF hMe357; have hv357_3 := hcc357 3 _ rfl; rw [add_field _ _ 3 (by omega)] at hv357_3; replace hv357_3 := Option.some.inj (hv357_3.symm.trans hx357_3); injection hv357_3 with hva_ hvn_ hvc_; rw [hva_] at ge357_3; rw [hvc_] at ul357_3; have HL357_3 := Aside0.mk (show Kd.V k29 29 _ w.heap.size _ _ ((rd_T29 t349 x6_1).f3) from Kd.V_mk ul357_3 ge357_3); clear hva_ hvn_ hvc_ ge357_3 ul357_3; clear hcc357 hce357; have HR357_3 := Aside0.mk hi357_3; have HC357_3 := Aside0.mk hl357_3; clear hi357_3 hl357_3; replace p357 := eq_true p357; replace q357 := eq_true q357) | ((with_reducible refine gate_callee (f := 19) rfl ?_); refine goesL_ (some 42) rfl rfl Try.func19 (by kernel_rfl) rfl #[.agg #[.int .i64 ((rd_T29 t349 x6_1).f0), .string ((rd_T29 t349 x6_1).f1), .int .i64 ((rd_T29 t349 x6_1).f2), .slice A357_3 ((rd_T29 t349 x6_1).f3).length c357_3]] rfl ma_ ?_; (with_reducible refine (impl_DepthOf.calls k1 ((rd_T29 t349 x6_1).f0) ((rd_T29 t349 x6_1).f1) ((rd_T29 t349 x6_1).f2) _ _ ((rd_T29 t349 x6_1).f3) t358 _ ?side1 ?side2 A15.out).mono ?_); (case side1 => repeat (first | exact (by repeat (first | (with_reducible exact HR357_3.out) | (with_reducible refine Kd.C_alloc ?_ _) | (with_reducible refine Kd.C_drewN ?_ _) | (with_reducible refine Kd.C_drew ?_) | exact HR357_3.out)) | (with_reducible refine Kd.C_alloc ?_ _) | (with_reducible refine Kd.C_drewN ?_ _) | (with_reducible refine Kd.C_drew ?_))); (case side2 => exact HC357_3.out); rintro e w21 ⟨rfl, hb⟩; refine ⟨_, rfl, ?_⟩; replace HO_353003 := Aside0.mk (Kd.N_below (N_ HO_353003.out) hb); replace HL353_3 := Aside0.mk (Kd.V_below (V_ HL353_3.out) hb); replace HL355_3 := Aside0.mk (Kd.V_below (V_ HL355_3.out) hb); replace HL357_3 := Aside0.mk (Kd.V_below (V_ HL357_3.out) hb); replace BK352 := Aside0.mk (blk_below (K_ BK352.out) hb); replace HR353_3 := Aside0.mk (Kd.C_below (by repeat (first | (with_reducible exact HR353_3.out) | (with_reducible refine Kd.C_alloc ?_ _) | (with_reducible refine Kd.C_drewN ?_ _) | (with_reducible refine Kd.C_drew ?_) | exact HR353_3.out)) hb); replace HR355_3 := Aside0.mk (Kd.C_below (by repeat (first | (with_reducible exact HR355_3.out) | (with_reducible refine Kd.C_alloc ?_ _) | (with_reducible refine Kd.C_drewN ?_ _) | (with_reducible refine Kd.C_drew ?_) | exact HR355_3.out)) hb); replace HR357_3 := Aside0.mk (Kd.C_below (by repeat (first | (with_reducible exact HR357_3.out) | (with_reducible refine Kd.C_alloc ?_ _) | (with_reducible refine Kd.C_drewN ?_ _) | (with_reducible refine Kd.C_drew ?_) | exact HR357_3.out)) hb); replace HB := Aside0.mk (below_step (B1_ HB.out GE352.out) hb); (try clear hb); (try clear hb2); (try clear hk); (try clear hi)))
       go_roundg k1
       case measure => have := HK1.out; omega
       case rel => exact ⟨(wrap64 (x4_1 + t354)), (t358), (wrap64 (x6_1 + 1)), q_, q_, q_, H', ⟨by have := HK1.out; omega⟩, ⟨N_ HO_353003.out⟩, ⟨K_ BK352.out⟩, ⟨B1_ HB.out GE352.out⟩⟩
      ·rw [if_neg c14] at H
       have c14b0 : decide (x5_1 < t356) = false := decide_eq_false c14
       clear c14
       have H' := Aside0.mk H
       clear H
       obtain ⟨hcz22_0, hcz22_1, hcz22_2, hcz22_3, hfz22_0, hfz22_1, hfz22_2, hfz22_3⟩ := box4_ BK352.out
       have p353 : 0 ≤ (x6_1 : Int) := de_
       have q353 : x6_1 < (t349.length : Int) := de_
       obtain ⟨ad353, A353_3, c353_3, e353, hx353_0, hx353_1, hx353_2, hx353_3, hl353_3, hi353_3⟩ := at_T29 (Kd.N_reads' HO_353003.out).2.2 x6_1 p353 q353
       cases e353
       obtain ⟨ce353, hce353, hMe353, hcc353⟩ := Kd.N_get HO_353003.out z29 x6_1 p353 (by first | exact q353 | exact de_ | (have e_ := (Kd.N_reads' HO_353003.out).1; omega))
       obtain ⟨ua353_3, uc353_3, rfl, ul353_3, ge353_3⟩ := k29_openF hMe353
       have hv353_3 := hcc353 3 _ rfl
       rw [add_field _ _ 3 (by omega)] at hv353_3
       replace hv353_3 := Option.some.inj (hv353_3.symm.trans hx353_3)
       injection hv353_3 with hva_ hvn_ hvc_
       rw [hva_] at ge353_3
       rw [hvc_] at ul353_3
       have HL353_3 := Aside0.mk (show Kd.V k29 29 _ w.heap.size _ _ ((rd_T29 t349 x6_1).f3) from Kd.V_mk ul353_3 ge353_3)
       clear hva_ hvn_ hvc_ ge353_3 ul353_3
       clear hcc353 hce353
       have HR353_3 := Aside0.mk hi353_3
       have HC353_3 := Aside0.mk hl353_3
       clear hi353_3 hl353_3
       replace p353 := eq_true p353
       replace q353 := eq_true q353
       go_wp2_with (first | ((with_reducible refine gate_callee (f := 16) rfl ?_); refine goesL_ (some 27) rfl rfl Try.func16 (by kernel_rfl) rfl #[.agg #[.int .i64 ((rd_T29 t349 x6_1).f0), .string ((rd_T29 t349 x6_1).f1), .int .i64 ((rd_T29 t349 x6_1).f2), .slice A353_3 ((rd_T29 t349 x6_1).f3).length c353_3]] rfl ma_ ?_; (with_reducible refine (impl_SizeOf.calls k1 ((rd_T29 t349 x6_1).f0) ((rd_T29 t349 x6_1).f1) ((rd_T29 t349 x6_1).f2) _ _ ((rd_T29 t349 x6_1).f3) t354 _ ?side1 ?side2 A12.out).mono ?_); (case side1 => repeat (first | exact (by repeat (first | (with_reducible exact HR353_3.out) | (with_reducible refine Kd.C_alloc ?_ _) | (with_reducible refine Kd.C_drewN ?_ _) | (with_reducible refine Kd.C_drew ?_) | exact HR353_3.out)) | (with_reducible refine Kd.C_alloc ?_ _) | (with_reducible refine Kd.C_drewN ?_ _) | (with_reducible refine Kd.C_drew ?_))); (case side2 => exact HC353_3.out); rintro e w23 ⟨rfl, hb⟩; refine ⟨_, rfl, ?_⟩; replace HO_353003 := Aside0.mk (Kd.N_below (N_ HO_353003.out) hb); replace HL353_3 := Aside0.mk (Kd.V_below (V_ HL353_3.out) hb); replace BK352 := Aside0.mk (blk_below (K_ BK352.out) hb); replace HR353_3 := Aside0.mk (Kd.C_below (by repeat (first | (with_reducible exact HR353_3.out) | (with_reducible refine Kd.C_alloc ?_ _) | (with_reducible refine Kd.C_drewN ?_ _) | (with_reducible refine Kd.C_drew ?_) | exact HR353_3.out)) hb); replace HB := Aside0.mk (below_step (B1_ HB.out GE352.out) hb); (try clear hb); (try clear hb2); (try clear hk); (try clear hi); obtain ⟨hcz24_0, hcz24_1, hcz24_2, hcz24_3, hfz24_0, hfz24_1, hfz24_2, hfz24_3⟩ := box4_ BK352.out; have p355 : 0 ≤ (x6_1 : Int) := de_; have q355 : x6_1 < (t349.length : Int) := de_; obtain ⟨ad355, A355_3, c355_3, e355, hx355_0, hx355_1, hx355_2, hx355_3, hl355_3, hi355_3⟩ := at_T29 (Kd.N_reads' HO_353003.out).2.2 x6_1 p355 q355; obtain rfl : ad353 = ad355 := (by injection e355); obtain ⟨ce355, hce355, hMe355, hcc355⟩ := Kd.N_get HO_353003.out z29 x6_1 p355 (by first | exact q355 | exact de_ | (have e_ := (Kd.N_reads' HO_353003.out).1; omega)); obtain ⟨ua355_3, uc355_3, rfl, ul355_3, ge355_3⟩ := k29_openF hMe355; have hv355_3 := hcc355 3 _ rfl; rw [add_field _ _ 3 (by omega)] at hv355_3; replace hv355_3 := Option.some.inj (hv355_3.symm.trans hx355_3); injection hv355_3 with hva_ hvn_ hvc_; rw [hva_] at ge355_3; rw [hvc_] at ul355_3; have HL355_3 := Aside0.mk (show Kd.V k29 29 _ w.heap.size _ _ ((rd_T29 t349 x6_1).f3) from Kd.V_mk ul355_3 ge355_3); clear hva_ hvn_ hvc_ ge355_3 ul355_3; clear hcc355 hce355; have HR355_3 := Aside0.mk hi355_3; have HC355_3 := Aside0.mk hl355_3; clear hi355_3 hl355_3; replace p355 := eq_true p355; replace q355 := eq_true q355) | ((with_reducible refine gate_callee (f := 19) rfl ?_); refine goesL_ (some 34) rfl rfl Try.func19 (by kernel_rfl) rfl #[.agg #[.int .i64 ((rd_T29 t349 x6_1).f0), .string ((rd_T29 t349 x6_1).f1), .int .i64 ((rd_T29 t349 x6_1).f2), .slice A355_3 ((rd_T29 t349 x6_1).f3).length c355_3]] rfl ma_ ?_; (with_reducible refine (impl_DepthOf.calls k1 ((rd_T29 t349 x6_1).f0) ((rd_T29 t349 x6_1).f1) ((rd_T29 t349 x6_1).f2) _ _ ((rd_T29 t349 x6_1).f3) t356 _ ?side1 ?side2 A13.out).mono ?_); (case side1 => repeat (first | exact (by repeat (first | (with_reducible exact HR355_3.out) | (with_reducible refine Kd.C_alloc ?_ _) | (with_reducible refine Kd.C_drewN ?_ _) | (with_reducible refine Kd.C_drew ?_) | exact HR355_3.out)) | (with_reducible refine Kd.C_alloc ?_ _) | (with_reducible refine Kd.C_drewN ?_ _) | (with_reducible refine Kd.C_drew ?_))); (case side2 => exact HC355_3.out); rintro e w25 ⟨rfl, hb⟩; refine ⟨_, rfl, ?_⟩; replace HO_353003 := Aside0.mk (Kd.N_below (N_ HO_353003.out) hb); replace HL353_3 := Aside0.mk (Kd.V_below (V_ HL353_3.out) hb); replace HL355_3 := Aside0.mk (Kd.V_below (V_ HL355_3.out) hb); replace BK352 := Aside0.mk (blk_below (K_ BK352.out) hb); replace HR353_3 := Aside0.mk (Kd.C_below (by repeat (first | (with_reducible exact HR353_3.out) | (with_reducible refine Kd.C_alloc ?_ _) | (with_reducible refine Kd.C_drewN ?_ _) | (with_reducible refine Kd.C_drew ?_) | exact HR353_3.out)) hb); replace HR355_3 := Aside0.mk (Kd.C_below (by repeat (first | (with_reducible exact HR355_3.out) | (with_reducible refine Kd.C_alloc ?_ _) | (with_reducible refine Kd.C_drewN ?_ _) | (with_reducible refine Kd.C_drew ?_) | exact HR355_3.out)) hb); replace HB := Aside0.mk (below_step (B1_ HB.out GE352.out) hb); (try clear hb); (try clear hb2); (try clear hk); (try clear hi)))
       go_roundg k1
       case measure => have := HK1.out; omega
       case rel => exact ⟨(wrap64 (x4_1 + t354)), (x5_1), (wrap64 (x6_1 + 1)), q_, q_, q_, H', ⟨by have := HK1.out; omega⟩, ⟨N_ HO_353003.out⟩, ⟨K_ BK352.out⟩, ⟨B1_ HB.out GE352.out⟩⟩
     ·rw [if_neg c11] at H
      exact absurd H (by simp)
    ·rw [if_neg c10] at H
     have c10b0 : decide (x6_1 < (t349.length : Int)) = false := decide_eq_false c10
     clear c10
     (first | rw [c10b0] | (simp only [i64_w, i32_w]; rw [c10b0]) | skip)
     replace H := Option.bind_eq_some_iff.mp H
     obtain ⟨⟨t359, t360, t361, t362, t365, t366, t367, t368⟩, A260, H⟩ := H
     replace H : ((spec_DrawArityOf.f k1 l0).bind fun t373 => ((impl_SizeOf.f k1 t346 t347 t348 t349).bind fun t374 => (if t374 = x4_1 then ((impl_DepthOf.f k1 t346 t347 t348 t349).bind fun t375 => (if t375 = (wrap64 (x5_1 + 1)) then ((impl_IsOptic.f k1 t346 t347 t348 t349).bind fun t376 => ((spec_IsOptic.f k1 t346 t347 t348 t349).bind fun t377 => (if (t376 == t377) = true then ((impl_EqualOptic.f k1 t359 t360 t361 t362 t365 t366 t367 t368).bind fun t378 => ((spec_EqualOptic.f k1 t359 t360 t361 t362 t365 t366 t367 t368).bind fun t379 => (if (t378 == t379) = true then ((impl_ArityOf.f k1 t373).bind fun t380 => ((spec_ArityOf.f k1 t373).bind fun t381 => (some (t380 == t381)))) else (some false)))) else (some false)))) else (some false))) else (some false)))) = some r := H
     have A26 := Aside0.mk A260
     clear A260
     replace H := Option.bind_eq_some_iff.mp H
     obtain ⟨t373, A270, H⟩ := H
     replace H : ((impl_SizeOf.f k1 t346 t347 t348 t349).bind fun t374 => (if t374 = x4_1 then ((impl_DepthOf.f k1 t346 t347 t348 t349).bind fun t375 => (if t375 = (wrap64 (x5_1 + 1)) then ((impl_IsOptic.f k1 t346 t347 t348 t349).bind fun t376 => ((spec_IsOptic.f k1 t346 t347 t348 t349).bind fun t377 => (if (t376 == t377) = true then ((impl_EqualOptic.f k1 t359 t360 t361 t362 t365 t366 t367 t368).bind fun t378 => ((spec_EqualOptic.f k1 t359 t360 t361 t362 t365 t366 t367 t368).bind fun t379 => (if (t378 == t379) = true then ((impl_ArityOf.f k1 t373).bind fun t380 => ((spec_ArityOf.f k1 t373).bind fun t381 => (some (t380 == t381)))) else (some false)))) else (some false)))) else (some false))) else (some false))) = some r := H
     have A27 := Aside0.mk A270
     clear A270
     replace H := Option.bind_eq_some_iff.mp H
     obtain ⟨t374, A280, H⟩ := H
     replace H : (if t374 = x4_1 then ((impl_DepthOf.f k1 t346 t347 t348 t349).bind fun t375 => (if t375 = (wrap64 (x5_1 + 1)) then ((impl_IsOptic.f k1 t346 t347 t348 t349).bind fun t376 => ((spec_IsOptic.f k1 t346 t347 t348 t349).bind fun t377 => (if (t376 == t377) = true then ((impl_EqualOptic.f k1 t359 t360 t361 t362 t365 t366 t367 t368).bind fun t378 => ((spec_EqualOptic.f k1 t359 t360 t361 t362 t365 t366 t367 t368).bind fun t379 => (if (t378 == t379) = true then ((impl_ArityOf.f k1 t373).bind fun t380 => ((spec_ArityOf.f k1 t373).bind fun t381 => (some (t380 == t381)))) else (some false)))) else (some false)))) else (some false))) else (some false)) = some r := H
     have A28 := Aside0.mk A280
     clear A280
     by_cases c29 : t374 = x4_1
     ·rw [if_pos c29] at H
      have c29b0 : (t374 == x4_1) = true := beq_iff_eq.mpr c29
      have c29b1 : (t374 != x4_1) = false := bne_eq_false_iff_eq.mpr c29
      clear c29
      replace H := Option.bind_eq_some_iff.mp H
      obtain ⟨t375, A300, H⟩ := H
      replace H : (if t375 = (wrap64 (x5_1 + 1)) then ((impl_IsOptic.f k1 t346 t347 t348 t349).bind fun t376 => ((spec_IsOptic.f k1 t346 t347 t348 t349).bind fun t377 => (if (t376 == t377) = true then ((impl_EqualOptic.f k1 t359 t360 t361 t362 t365 t366 t367 t368).bind fun t378 => ((spec_EqualOptic.f k1 t359 t360 t361 t362 t365 t366 t367 t368).bind fun t379 => (if (t378 == t379) = true then ((impl_ArityOf.f k1 t373).bind fun t380 => ((spec_ArityOf.f k1 t373).bind fun t381 => (some (t380 == t381)))) else (some false)))) else (some false)))) else (some false)) = some r := H
      have A30 := Aside0.mk A300
      clear A300
      by_cases c31 : t375 = (wrap64 (x5_1 + 1))
      ·rw [if_pos c31] at H
       have c31b0 : (t375 == (wrap64 (x5_1 + 1))) = true := beq_iff_eq.mpr c31
       have c31b1 : (t375 != (wrap64 (x5_1 + 1))) = false := bne_eq_false_iff_eq.mpr c31
       clear c31
       replace H := Option.bind_eq_some_iff.mp H
       obtain ⟨t376, A320, H⟩ := H
       replace H : ((spec_IsOptic.f k1 t346 t347 t348 t349).bind fun t377 => (if (t376 == t377) = true then ((impl_EqualOptic.f k1 t359 t360 t361 t362 t365 t366 t367 t368).bind fun t378 => ((spec_EqualOptic.f k1 t359 t360 t361 t362 t365 t366 t367 t368).bind fun t379 => (if (t378 == t379) = true then ((impl_ArityOf.f k1 t373).bind fun t380 => ((spec_ArityOf.f k1 t373).bind fun t381 => (some (t380 == t381)))) else (some false)))) else (some false))) = some r := H
       have A32 := Aside0.mk A320
       clear A320
       replace H := Option.bind_eq_some_iff.mp H
       obtain ⟨t377, A330, H⟩ := H
       replace H : (if (t376 == t377) = true then ((impl_EqualOptic.f k1 t359 t360 t361 t362 t365 t366 t367 t368).bind fun t378 => ((spec_EqualOptic.f k1 t359 t360 t361 t362 t365 t366 t367 t368).bind fun t379 => (if (t378 == t379) = true then ((impl_ArityOf.f k1 t373).bind fun t380 => ((spec_ArityOf.f k1 t373).bind fun t381 => (some (t380 == t381)))) else (some false)))) else (some false)) = some r := H
       have A33 := Aside0.mk A330
       clear A330
       by_cases c34 : (t376 == t377) = true
       ·rw [if_pos c34] at H
        have c34b0 : (t376 == t377) = true := c34
        (try (have c34b1 : decide (t376 = t377) = true := by simpa using c34))
        (try (have c34b2 : (t376 == t377) = true := by simpa using c34))
        clear c34
        replace H := Option.bind_eq_some_iff.mp H
        obtain ⟨t378, A350, H⟩ := H
        replace H : ((spec_EqualOptic.f k1 t359 t360 t361 t362 t365 t366 t367 t368).bind fun t379 => (if (t378 == t379) = true then ((impl_ArityOf.f k1 t373).bind fun t380 => ((spec_ArityOf.f k1 t373).bind fun t381 => (some (t380 == t381)))) else (some false))) = some r := H
        have A35 := Aside0.mk A350
        clear A350
        replace H := Option.bind_eq_some_iff.mp H
        obtain ⟨t379, A360, H⟩ := H
        replace H : (if (t378 == t379) = true then ((impl_ArityOf.f k1 t373).bind fun t380 => ((spec_ArityOf.f k1 t373).bind fun t381 => (some (t380 == t381)))) else (some false)) = some r := H
        have A36 := Aside0.mk A360
        clear A360
        by_cases c37 : (t378 == t379) = true
        ·rw [if_pos c37] at H
         have c37b0 : (t378 == t379) = true := c37
         (try (have c37b1 : decide (t378 = t379) = true := by simpa using c37))
         (try (have c37b2 : (t378 == t379) = true := by simpa using c37))
         clear c37
         replace H := Option.bind_eq_some_iff.mp H
         obtain ⟨t380, A380, H⟩ := H
         replace H : ((spec_ArityOf.f k1 t373).bind fun t381 => (some (t380 == t381))) = some r := H
         have A38 := Aside0.mk A380
         clear A380
         replace H := Option.bind_eq_some_iff.mp H
         obtain ⟨t381, A390, H⟩ := H
         replace H : (some (t380 == t381)) = some r := H
         have A39 := Aside0.mk A390
         clear A390
         obtain rfl := Option.some.inj H
         obtain ⟨hcz40_0, hcz40_1, hcz40_2, hcz40_3, hfz40_0, hfz40_1, hfz40_2, hfz40_3⟩ := box4_ BK352.out
         try go_wp2_with (first | ((with_reducible refine gate_callee (f := 30) rfl ?_); refine goesL_ (some 45) rfl rfl Try.func30 (by kernel_rfl) rfl #[.slice A0 l0.length c0] rfl ma_ ?_; (with_reducible refine (spec_DrawEqualOptic.calls k1 _ _ l0 t359 t360 t361 t362 t365 t366 t367 t368 _ ?side1 ?side2 A26.out).mono ?_); (case side1 => exact C_ (Kd.C_below HR0.out HB.out)); (case side2 => exact HC0.out); rintro e w41 ⟨v363, v369, rfl, ho0, ho1, hb⟩; refine ⟨_, rfl, ?_⟩; have HO364 := Aside0.mk (Kd.N_lower (Kd.N_mono (ok' := fun k_ => some k_ ≠ (v369 : Value).ownBlock ∧ some k_ ≠ (.slice Ao9 t349.length co9 : Value).ownBlock ∧ k_ ≠ gb352) (Kd.R_N (Kd.R_bound ho0)) (fun k_ hk_ => ⟨hk_.1, (Kd.fresh' (Kd.N_lt (N_ HO_353003.out)) k_ hk_.2.1), (Kd.freshB (K_ BK352.out) k_ hk_.2.1)⟩)) (below_size (B1_ HB.out GE352.out))); have HO370 := Aside0.mk (Kd.N_lower (Kd.N_mono (ok' := fun k_ => some k_ ≠ (v363 : Value).ownBlock ∧ some k_ ≠ (.slice Ao9 t349.length co9 : Value).ownBlock ∧ k_ ≠ gb352) (Kd.R_N (Kd.R_bound ho1)) (fun k_ hk_ => ⟨hk_.1, (Kd.fresh' (Kd.N_lt (N_ HO_353003.out)) k_ hk_.2.1), (Kd.freshB (K_ BK352.out) k_ hk_.2.1)⟩)) (below_size (B1_ HB.out GE352.out))); replace HO_353003 := Aside0.mk (Kd.N_mono (Kd.N_told (Kd.N_told (Kd.N_old (N_ HO_353003.out) hb) (Kd.R_base ho0)) (Kd.R_base ho1)) (fun _ h_ => h_.1)); replace BK352 := Aside0.mk (blk_below (K_ BK352.out) hb); replace HB := Aside0.mk (below_step (B1_ HB.out GE352.out) hb); (try clear hb); (try clear hb2); (try clear hk); (try clear hi); (try clear ho0); (try clear ho1)) | ((with_reducible refine gate_dst (N := 7) rfl ?_); refine box_event ?hg (N := 7) ?hd (cs := #[.int .i64 0, .string (⟨#[]⟩ : ByteArray), .int .i64 0, .slice none 0 0]) (t := 29) ?hr ?_; (case hd => rfl); (case hg => rfl); (case hr => first | (go_simp; done) | (go_simp; rfl)); intro gb371 hg w42 hbox hb; replace HO_353003 := Aside0.mk (Kd.N_below (Kd.N_elderB (N_ HO_353003.out) gb371 (Nat.le_of_eq hg.symm)) hb); replace HO364 := Aside0.mk (Kd.N_below (Kd.N_elderB (N_ HO364.out) gb371 (Nat.le_of_eq hg.symm)) hb); replace HO370 := Aside0.mk (Kd.N_below (Kd.N_elderB (N_ HO370.out) gb371 (Nat.le_of_eq hg.symm)) hb); have BK371 := Aside0.mk (hbox); have GW371 := Aside0.mk ((by rw [hg]; exact (below_size (B1_ HB.out GE352.out)) : w.heap.size ≤ gb371)); have GE371 := Aside0.mk ((by rw [hg]; exact (below_size (B1_ HB.out GE352.out)) : w.heap.size ≤ gb371)); replace HB := Aside0.mk (below_step (B1_ HB.out GE352.out) hb); have NB352_371 := Aside0.mk ((by rw [hg]; exact Nat.ne_of_lt (blk_lt (K_ BK352.out)) : gb352 ≠ gb371)); have NB371_352 := Aside0.mk ((by rw [hg]; exact Nat.ne_of_gt (blk_lt (K_ BK352.out)) : gb371 ≠ gb352)); replace BK352 := Aside0.mk (blk_below (K_ BK352.out) hb); clear hb hbox hg) | ((with_reducible refine gate_dst (N := 8) rfl ?_); refine box_event ?hg (N := 8) ?hd (cs := #[.int .i64 0, .string (⟨#[]⟩ : ByteArray), .int .i64 0, .slice none 0 0]) (t := 29) ?hr ?_; (case hd => rfl); (case hg => rfl); (case hr => first | (go_simp; done) | (go_simp; rfl)); intro gb372 hg w43 hbox hb; replace HO_353003 := Aside0.mk (Kd.N_below (Kd.N_elderB (N_ HO_353003.out) gb372 (Nat.le_of_eq hg.symm)) hb); replace HO364 := Aside0.mk (Kd.N_below (Kd.N_elderB (N_ HO364.out) gb372 (Nat.le_of_eq hg.symm)) hb); replace HO370 := Aside0.mk (Kd.N_below (Kd.N_elderB (N_ HO370.out) gb372 (Nat.le_of_eq hg.symm)) hb); have BK372 := Aside0.mk (hbox); have GW372 := Aside0.mk ((by rw [hg]; exact (below_size (B2_ HB.out GE352.out GE371.out)) : w.heap.size ≤ gb372)); have GE372 := Aside0.mk ((by rw [hg]; exact (below_size (B2_ HB.out GE352.out GE371.out)) : w.heap.size ≤ gb372)); replace HB := Aside0.mk (below_step (B2_ HB.out GE352.out GE371.out) hb); have NB352_372 := Aside0.mk ((by rw [hg]; exact Nat.ne_of_lt (blk_lt (K_ BK352.out)) : gb352 ≠ gb372)); have NB372_352 := Aside0.mk ((by rw [hg]; exact Nat.ne_of_gt (blk_lt (K_ BK352.out)) : gb372 ≠ gb352)); replace BK352 := Aside0.mk (blk_below (K_ BK352.out) hb); have NB371_372 := Aside0.mk ((by rw [hg]; exact Nat.ne_of_lt (blk_lt (K_ BK371.out)) : gb371 ≠ gb372)); have NB372_371 := Aside0.mk ((by rw [hg]; exact Nat.ne_of_gt (blk_lt (K_ BK371.out)) : gb372 ≠ gb371)); replace BK371 := Aside0.mk (blk_below (K_ BK371.out) hb); clear hb hbox hg; have hnb44 := NB371_352.out; have hnc44 := NB352_371.out; have hnb45 := NB371_372.out; have hnc45 := NB372_371.out; obtain ⟨hcz46_0, hcz46_1, hcz46_2, hcz46_3, hfz46_0, hfz46_1, hfz46_2, hfz46_3⟩ := box4_ BK371.out; obtain ⟨Ao47, co47, eo47⟩ := Kd.N_slice HO364.out; subst eo47; have hnb48 := NB372_352.out; have hnc48 := NB352_372.out; obtain ⟨hcz49_0, hcz49_1, hcz49_2, hcz49_3, hfz49_0, hfz49_1, hfz49_2, hfz49_3⟩ := box4_ BK372.out; obtain ⟨Ao50, co50, eo50⟩ := Kd.N_slice HO370.out; subst eo50) | ((with_reducible refine gate_callee (f := 31) rfl ?_); refine goesL_ (some 49) rfl rfl Try.func31 (by kernel_rfl) rfl #[.slice A0 l0.length c0] rfl ma_ ?_; (with_reducible refine (spec_DrawArityOf.calls k1 _ _ l0 t373 _ ?side1 ?side2 A27.out).mono ?_); (case side1 => exact Kd.C_below HR0.out (B3_ HB.out GE352.out GE371.out GE372.out)); (case side2 => exact HC0.out); rintro e w51 ⟨rfl, hb⟩; refine ⟨_, rfl, ?_⟩; replace HO_353003 := Aside0.mk (Kd.N_below (by (with_reducible repeat (first | apply Kd.N_alloc | apply Kd.N_drewN | apply Kd.N_drew)); exact (Kd.N_mono (Kd.N_mono (Kd.N_far (p := ⟨gb372, 3, none⟩) (Kd.N_far (p := ⟨gb372, 2, none⟩) (Kd.N_far (p := ⟨gb372, 1, none⟩) (Kd.N_far (p := ⟨gb372, 0, none⟩) (Kd.N_far (p := ⟨gb371, 3, none⟩) (Kd.N_far (p := ⟨gb371, 2, none⟩) (Kd.N_far (p := ⟨gb371, 1, none⟩) (Kd.N_far (p := ⟨gb371, 0, none⟩) (Kd.N_mono (Kd.N_mono HO_353003.out (fun k_ hk => (⟨hk, hk.1.2⟩ : _ ∧ k_ ≠ gb371))) (fun k_ hk => (⟨hk, hk.1.2⟩ : _ ∧ k_ ≠ gb372))) (fun _ hk => hk.1.2) (.int .i64 t359)) (fun _ hk => hk.1.2) (.string t360)) (fun _ hk => hk.1.2) (.int .i64 t361)) (fun _ hk => hk.1.2) (.slice Ao47 t362.length co47)) (fun _ hk => hk.2) (.int .i64 t365)) (fun _ hk => hk.2) (.string t366)) (fun _ hk => hk.2) (.int .i64 t367)) (fun _ hk => hk.2) (.slice Ao50 t368.length co50)) (fun _ h_ => h_.1)) (fun _ h_ => h_.1))) hb); replace HO364 := Aside0.mk (Kd.N_below (by (with_reducible repeat (first | apply Kd.N_alloc | apply Kd.N_drewN | apply Kd.N_drew)); exact (Kd.N_mono (Kd.N_mono (Kd.N_far (p := ⟨gb372, 3, none⟩) (Kd.N_far (p := ⟨gb372, 2, none⟩) (Kd.N_far (p := ⟨gb372, 1, none⟩) (Kd.N_far (p := ⟨gb372, 0, none⟩) (Kd.N_far (p := ⟨gb371, 3, none⟩) (Kd.N_far (p := ⟨gb371, 2, none⟩) (Kd.N_far (p := ⟨gb371, 1, none⟩) (Kd.N_far (p := ⟨gb371, 0, none⟩) (Kd.N_mono (Kd.N_mono HO364.out (fun k_ hk => (⟨hk, hk.1.2⟩ : _ ∧ k_ ≠ gb371))) (fun k_ hk => (⟨hk, hk.1.2⟩ : _ ∧ k_ ≠ gb372))) (fun _ hk => hk.1.2) (.int .i64 t359)) (fun _ hk => hk.1.2) (.string t360)) (fun _ hk => hk.1.2) (.int .i64 t361)) (fun _ hk => hk.1.2) (.slice Ao47 t362.length co47)) (fun _ hk => hk.2) (.int .i64 t365)) (fun _ hk => hk.2) (.string t366)) (fun _ hk => hk.2) (.int .i64 t367)) (fun _ hk => hk.2) (.slice Ao50 t368.length co50)) (fun _ h_ => h_.1)) (fun _ h_ => h_.1))) hb); replace HO370 := Aside0.mk (Kd.N_below (by (with_reducible repeat (first | apply Kd.N_alloc | apply Kd.N_drewN | apply Kd.N_drew)); exact (Kd.N_mono (Kd.N_mono (Kd.N_far (p := ⟨gb372, 3, none⟩) (Kd.N_far (p := ⟨gb372, 2, none⟩) (Kd.N_far (p := ⟨gb372, 1, none⟩) (Kd.N_far (p := ⟨gb372, 0, none⟩) (Kd.N_far (p := ⟨gb371, 3, none⟩) (Kd.N_far (p := ⟨gb371, 2, none⟩) (Kd.N_far (p := ⟨gb371, 1, none⟩) (Kd.N_far (p := ⟨gb371, 0, none⟩) (Kd.N_mono (Kd.N_mono HO370.out (fun k_ hk => (⟨hk, hk.1.2⟩ : _ ∧ k_ ≠ gb371))) (fun k_ hk => (⟨hk, hk.1.2⟩ : _ ∧ k_ ≠ gb372))) (fun _ hk => hk.1.2) (.int .i64 t359)) (fun _ hk => hk.1.2) (.string t360)) (fun _ hk => hk.1.2) (.int .i64 t361)) (fun _ hk => hk.1.2) (.slice Ao47 t362.length co47)) (fun _ hk => hk.2) (.int .i64 t365)) (fun _ hk => hk.2) (.string t366)) (fun _ hk => hk.2) (.int .i64 t367)) (fun _ hk => hk.2) (.slice Ao50 t368.length co50)) (fun _ h_ => h_.1)) (fun _ h_ => h_.1))) hb); replace BK352 := Aside0.mk (blk_below (g := gb352) (o := .cells #[.int .i64 t346, .string t347, .int .i64 t348, .slice Ao9 t349.length co9] 29 (0, 0)) (by (with_reducible repeat (first | refine blk_drewN ?_ _ | refine blk_drew ?_ | refine blk_alloc ?_ _)); refine blk_far ?_ NB352_372.out _; (with_reducible repeat (first | refine blk_drewN ?_ _ | refine blk_drew ?_ | refine blk_alloc ?_ _)); refine blk_far ?_ NB352_372.out _; (with_reducible repeat (first | refine blk_drewN ?_ _ | refine blk_drew ?_ | refine blk_alloc ?_ _)); refine blk_far ?_ NB352_372.out _; (with_reducible repeat (first | refine blk_drewN ?_ _ | refine blk_drew ?_ | refine blk_alloc ?_ _)); refine blk_far ?_ NB352_372.out _; (with_reducible repeat (first | refine blk_drewN ?_ _ | refine blk_drew ?_ | refine blk_alloc ?_ _)); refine blk_far ?_ NB352_371.out _; (with_reducible repeat (first | refine blk_drewN ?_ _ | refine blk_drew ?_ | refine blk_alloc ?_ _)); refine blk_far ?_ NB352_371.out _; (with_reducible repeat (first | refine blk_drewN ?_ _ | refine blk_drew ?_ | refine blk_alloc ?_ _)); refine blk_far ?_ NB352_371.out _; (with_reducible repeat (first | refine blk_drewN ?_ _ | refine blk_drew ?_ | refine blk_alloc ?_ _)); refine blk_far ?_ NB352_371.out _; (with_reducible repeat (first | refine blk_drewN ?_ _ | refine blk_drew ?_ | refine blk_alloc ?_ _)); exact BK352.out) hb); replace BK371 := Aside0.mk (blk_below (g := gb371) (o := .cells #[.int .i64 t359, .string t360, .int .i64 t361, .slice Ao47 t362.length co47] 29 (0, 0)) (by (with_reducible repeat (first | refine blk_drewN ?_ _ | refine blk_drew ?_ | refine blk_alloc ?_ _)); refine blk_far ?_ NB371_372.out _; (with_reducible repeat (first | refine blk_drewN ?_ _ | refine blk_drew ?_ | refine blk_alloc ?_ _)); refine blk_far ?_ NB371_372.out _; (with_reducible repeat (first | refine blk_drewN ?_ _ | refine blk_drew ?_ | refine blk_alloc ?_ _)); refine blk_far ?_ NB371_372.out _; (with_reducible repeat (first | refine blk_drewN ?_ _ | refine blk_drew ?_ | refine blk_alloc ?_ _)); refine blk_far ?_ NB371_372.out _; (with_reducible repeat (first | refine blk_drewN ?_ _ | refine blk_drew ?_ | refine blk_alloc ?_ _)); refine blk_put (cs := #[.int .i64 t359, .string t360, .int .i64 t361, .slice none 0 0]) ?_ 3 _ rfl; (with_reducible repeat (first | refine blk_drewN ?_ _ | refine blk_drew ?_ | refine blk_alloc ?_ _)); refine blk_put (cs := #[.int .i64 t359, .string t360, .int .i64 0, .slice none 0 0]) ?_ 2 _ rfl; (with_reducible repeat (first | refine blk_drewN ?_ _ | refine blk_drew ?_ | refine blk_alloc ?_ _)); refine blk_put (cs := #[.int .i64 t359, .string (⟨#[]⟩ : ByteArray), .int .i64 0, .slice none 0 0]) ?_ 1 _ rfl; (with_reducible repeat (first | refine blk_drewN ?_ _ | refine blk_drew ?_ | refine blk_alloc ?_ _)); refine blk_put (cs := #[.int .i64 0, .string (⟨#[]⟩ : ByteArray), .int .i64 0, .slice none 0 0]) ?_ 0 _ rfl; (with_reducible repeat (first | refine blk_drewN ?_ _ | refine blk_drew ?_ | refine blk_alloc ?_ _)); exact BK371.out) hb); replace BK372 := Aside0.mk (blk_below (g := gb372) (o := .cells #[.int .i64 t365, .string t366, .int .i64 t367, .slice Ao50 t368.length co50] 29 (0, 0)) (by (with_reducible repeat (first | refine blk_drewN ?_ _ | refine blk_drew ?_ | refine blk_alloc ?_ _)); refine blk_put (cs := #[.int .i64 t365, .string t366, .int .i64 t367, .slice none 0 0]) ?_ 3 _ rfl; (with_reducible repeat (first | refine blk_drewN ?_ _ | refine blk_drew ?_ | refine blk_alloc ?_ _)); refine blk_put (cs := #[.int .i64 t365, .string t366, .int .i64 0, .slice none 0 0]) ?_ 2 _ rfl; (with_reducible repeat (first | refine blk_drewN ?_ _ | refine blk_drew ?_ | refine blk_alloc ?_ _)); refine blk_put (cs := #[.int .i64 t365, .string (⟨#[]⟩ : ByteArray), .int .i64 0, .slice none 0 0]) ?_ 1 _ rfl; (with_reducible repeat (first | refine blk_drewN ?_ _ | refine blk_drew ?_ | refine blk_alloc ?_ _)); refine blk_put (cs := #[.int .i64 0, .string (⟨#[]⟩ : ByteArray), .int .i64 0, .slice none 0 0]) ?_ 0 _ rfl; (with_reducible repeat (first | refine blk_drewN ?_ _ | refine blk_drew ?_ | refine blk_alloc ?_ _)); refine blk_far ?_ NB372_371.out _; (with_reducible repeat (first | refine blk_drewN ?_ _ | refine blk_drew ?_ | refine blk_alloc ?_ _)); refine blk_far ?_ NB372_371.out _; (with_reducible repeat (first | refine blk_drewN ?_ _ | refine blk_drew ?_ | refine blk_alloc ?_ _)); refine blk_far ?_ NB372_371.out _; (with_reducible repeat (first | refine blk_drewN ?_ _ | refine blk_drew ?_ | refine blk_alloc ?_ _)); refine blk_far ?_ NB372_371.out _; (with_reducible repeat (first | refine blk_drewN ?_ _ | refine blk_drew ?_ | refine blk_alloc ?_ _)); exact BK372.out) hb); replace HB := Aside0.mk (below_step (B3_ HB.out GE352.out GE371.out GE372.out) hb); (try clear hb); (try clear hb2); (try clear hk); (try clear hi)))
         replace HO_353003 := Aside0.mk (Kd.N_drew HO_353003.out)
         replace HO364 := Aside0.mk (Kd.N_drew HO364.out)
         replace HO370 := Aside0.mk (Kd.N_drew HO370.out)
         replace BK352 := Aside0.mk (blk_drew BK352.out)
         replace BK371 := Aside0.mk (blk_drew BK371.out)
         replace BK372 := Aside0.mk (blk_drew BK372.out)
         replace HB := Aside0.mk (below_drew1 HB.out)
         refine start_ (n := 35) (S := fun w' => w'.cell? ⟨gb352, 0, none⟩ = some (.int .i64 t346) ∧ w'.cell? ⟨gb352, 1, none⟩ = some (.string t347) ∧ w'.cell? ⟨gb352, 2, none⟩ = some (.int .i64 t348) ∧ w'.cell? ⟨gb352, 3, none⟩ = some (.slice Ao9 t349.length co9) ∧ w'.cell? ⟨gb371, 0, none⟩ = some (.int .i64 t359) ∧ w'.cell? ⟨gb371, 1, none⟩ = some (.string t360) ∧ w'.cell? ⟨gb371, 2, none⟩ = some (.int .i64 t361) ∧ w'.cell? ⟨gb371, 3, none⟩ = some (.slice Ao47 t362.length co47) ∧ w'.cell? ⟨gb372, 0, none⟩ = some (.int .i64 t365) ∧ w'.cell? ⟨gb372, 1, none⟩ = some (.string t366) ∧ w'.cell? ⟨gb372, 2, none⟩ = some (.int .i64 t367) ∧ w'.cell? ⟨gb372, 3, none⟩ = some (.slice Ao50 t368.length co50)) (ds := []) #[false, false, false, false, false, false, false, false, false, false, false, false, false, false, false, false, false, false, false, false, false, false, false, false, false, false, false, false, false, false, false, false, false, false, false] (by kernel_rfl) rfl rfl ⟨(blk_cell BK352.out 0).trans rfl, (blk_cell BK352.out 1).trans rfl, (blk_cell BK352.out 2).trans rfl, (blk_cell BK352.out 3).trans rfl, (blk_cell BK371.out 0).trans rfl, (blk_cell BK371.out 1).trans rfl, (blk_cell BK371.out 2).trans rfl, (blk_cell BK371.out 3).trans rfl, (blk_cell BK372.out 0).trans rfl, (blk_cell BK372.out 1).trans rfl, (blk_cell BK372.out 2).trans rfl, (blk_cell BK372.out 3).trans rfl⟩ (fun hHeld => ?_); refine with_tabW laws_FnOptics.tab14 laws_FnOptics.bits14 (fun HT_ HW_ => ?_)
         generalize w51.drew = w52 at HO_353003 HO364 HO370 BK352 BK371 BK372 HB hHeld ⊢
         refine pure_ (i := 2) (N := some 52) (v := ?_) (a' := ?_) #[false, false, true, false, false, false, false, false, false, false, false, false, false, false, false, false, false, false, false, false, false, false, false, false, false, false, false, false, false, false, false, false, false, false, false] rfl rfl (any_of HT_.out (by kernel_rfl)) (fun _ _ _ h => h) (Or.inl ⟨by rfl, ?_⟩) ?_ ?_
         rotate_left
         ·intro w'
          go_simp
          with_reducible rfl
         rotate_left
         ·simp only [Act.put, List.setIfInBounds_toArray, List.set_cons_zero, List.set_cons_succ, i64_w, i32_w]
          rfl
         refine take_ (i := 0) (N := some 50) (v := ?_) (a' := ?_) #[true, false, true, false, false, false, false, false, false, false, false, false, false, false, false, false, false, false, false, false, false, false, false, false, false, false, false, false, false, false, false, false, false, false, false] rfl rfl (take_ofW HT_.out HW_.out (by kernel_rfl)) (fun _ _ _ h => h) (Or.inl ⟨by rfl, ?_⟩) hHeld ?_ ?_
         rotate_left
         ·rintro w' ⟨s0, s1, s2, s3, s4, s5, s6, s7, s8, s9, s10, s11⟩
          go_simp
          with_reducible rfl
         rotate_left
         ·simp only [Act.put, List.setIfInBounds_toArray, List.set_cons_zero, List.set_cons_succ, i64_w, i32_w]
          rfl
         refine one_ (i := 1) (N := some 51) #[true, true, true, false, false, false, false, false, false, false, false, false, false, false, false, false, false, false, false, false, false, false, false, false, false, false, false, false, false, false, false, false, false, false, false] rfl rfl (one_of HT_.out (by kernel_rfl)) (by decide) (fun K hK => ?_)
         refine goes_ Try.func16 (by kernel_rfl) rfl #[.agg #[.int .i64 t346, .string t347, .int .i64 t348, .slice Ao9 t349.length co9]] (by rfl) rfl rfl ma_ ?_
         with_reducible refine (impl_SizeOf.calls k1 t346 t347 t348 _ _ t349 t374 _ ?side1 ?side2 A28.out).mono ?_
         (case side1 => exact C_ (Kd.N_reads' HO_353003.out).2.2)
         (case side2 => exact (Kd.N_reads' HO_353003.out).2.1)
         rintro e w53 ⟨rfl, hb⟩
         refine ⟨_, rfl, ?_⟩
         replace HO_353003 := Aside0.mk (Kd.N_below (N_ HO_353003.out) hb)
         replace HO364 := Aside0.mk (Kd.N_below (N_ HO364.out) hb)
         replace HO370 := Aside0.mk (Kd.N_below (N_ HO370.out) hb)
         replace BK352 := Aside0.mk (blk_below (K_ BK352.out) hb)
         replace BK371 := Aside0.mk (blk_below (K_ BK371.out) hb)
         replace BK372 := Aside0.mk (blk_below (K_ BK372.out) hb)
         replace HB := Aside0.mk (below_step (B3_ HB.out GE352.out GE371.out GE372.out) hb)
         (try clear hb)
         (try clear hb2)
         (try clear hk)
         (try clear hi)
         refine hK.out _ _ ⟨(blk_cell BK352.out 0).trans rfl, (blk_cell BK352.out 1).trans rfl, (blk_cell BK352.out 2).trans rfl, (blk_cell BK352.out 3).trans rfl, (blk_cell BK371.out 0).trans rfl, (blk_cell BK371.out 1).trans rfl, (blk_cell BK371.out 2).trans rfl, (blk_cell BK371.out 3).trans rfl, (blk_cell BK372.out 0).trans rfl, (blk_cell BK372.out 1).trans rfl, (blk_cell BK372.out 2).trans rfl, (blk_cell BK372.out 3).trans rfl⟩ (fun hHeld => ?_)
         clear hK K
         refine norm_ (a' := ?_) ?_ ?_
         rotate_left
         ·show Act.put _ (some 51) _ = _
          simp only [Act.put, List.setIfInBounds_toArray, List.set_cons_zero, List.set_cons_succ, i64_w, i32_w]
          rfl
         refine pure_ (i := 3) (N := some 53) (v := ?_) (a' := ?_) #[true, true, true, true, false, false, false, false, false, false, false, false, false, false, false, false, false, false, false, false, false, false, false, false, false, false, false, false, false, false, false, false, false, false, false] rfl rfl (any_of HT_.out (by kernel_rfl)) (fun _ _ _ h => h) (Or.inl ⟨by rfl, ?_⟩) ?_ ?_
         rotate_left
         ·intro w'
          go_simp
          with_reducible rfl
         rotate_left
         ·simp only [Act.put, List.setIfInBounds_toArray, List.set_cons_zero, List.set_cons_succ, i64_w, i32_w]
          rfl
         refine pure_ (i := 4) (N := some 54) (v := ?_) (a' := ?_) #[true, true, true, true, true, false, false, false, false, false, false, false, false, false, false, false, false, false, false, false, false, false, false, false, false, false, false, false, false, false, false, false, false, false, false] rfl rfl (any_of HT_.out (by kernel_rfl)) (fun _ _ _ h => h) (Or.inl ⟨by rfl, ?_⟩) ?_ ?_
         rotate_left
         ·intro w'
          go_simp
          with_reducible rfl
         rotate_left
         ·simp only [Act.put, List.setIfInBounds_toArray, List.set_cons_zero, List.set_cons_succ, i64_w, i32_w]
          rfl
         refine pure_ (i := 7) (N := some 57) (v := ?_) (a' := ?_) #[true, true, true, true, true, false, false, true, false, false, false, false, false, false, false, false, false, false, false, false, false, false, false, false, false, false, false, false, false, false, false, false, false, false, false] rfl rfl (any_of HT_.out (by kernel_rfl)) (fun _ _ _ h => h) (Or.inl ⟨by rfl, ?_⟩) ?_ ?_
         rotate_left
         ·intro w'
          go_simp
          with_reducible rfl
         rotate_left
         ·simp only [Act.put, List.setIfInBounds_toArray, List.set_cons_zero, List.set_cons_succ, i64_w, i32_w]
          rfl
         refine pure_ (i := 8) (N := some 58) (v := ?_) (a' := ?_) #[true, true, true, true, true, false, false, true, true, false, false, false, false, false, false, false, false, false, false, false, false, false, false, false, false, false, false, false, false, false, false, false, false, false, false] rfl rfl (any_of HT_.out (by kernel_rfl)) (fun _ _ _ h => h) (Or.inl ⟨by rfl, ?_⟩) ?_ ?_
         rotate_left
         ·intro w'
          go_simp
          with_reducible rfl
         rotate_left
         ·simp only [Act.put, List.setIfInBounds_toArray, List.set_cons_zero, List.set_cons_succ, i64_w, i32_w]
          rfl
         refine take_ (i := 5) (N := some 55) (v := ?_) (a' := ?_) #[true, true, true, true, true, true, false, true, true, false, false, false, false, false, false, false, false, false, false, false, false, false, false, false, false, false, false, false, false, false, false, false, false, false, false] rfl rfl (take_ofW HT_.out HW_.out (by kernel_rfl)) (fun _ _ _ h => h) (Or.inl ⟨by rfl, ?_⟩) hHeld ?_ ?_
         rotate_left
         ·rintro w' ⟨s0, s1, s2, s3, s4, s5, s6, s7, s8, s9, s10, s11⟩
          go_simp
          with_reducible rfl
         rotate_left
         ·simp only [Act.put, List.setIfInBounds_toArray, List.set_cons_zero, List.set_cons_succ, i64_w, i32_w]
          rfl
         refine one_ (i := 6) (N := some 56) #[true, true, true, true, true, true, true, true, true, false, false, false, false, false, false, false, false, false, false, false, false, false, false, false, false, false, false, false, false, false, false, false, false, false, false] rfl rfl (one_of HT_.out (by kernel_rfl)) (by decide) (fun K hK => ?_)
         refine goes_ Try.func19 (by kernel_rfl) rfl #[.agg #[.int .i64 t346, .string t347, .int .i64 t348, .slice Ao9 t349.length co9]] (by rfl) rfl rfl ma_ ?_
         with_reducible refine (impl_DepthOf.calls k1 t346 t347 t348 _ _ t349 t375 _ ?side1 ?side2 A30.out).mono ?_
         (case side1 => exact C_ (Kd.N_reads' HO_353003.out).2.2)
         (case side2 => exact (Kd.N_reads' HO_353003.out).2.1)
         rintro e w54 ⟨rfl, hb⟩
         refine ⟨_, rfl, ?_⟩
         replace HO_353003 := Aside0.mk (Kd.N_below (N_ HO_353003.out) hb)
         replace HO364 := Aside0.mk (Kd.N_below (N_ HO364.out) hb)
         replace HO370 := Aside0.mk (Kd.N_below (N_ HO370.out) hb)
         replace BK352 := Aside0.mk (blk_below (K_ BK352.out) hb)
         replace BK371 := Aside0.mk (blk_below (K_ BK371.out) hb)
         replace BK372 := Aside0.mk (blk_below (K_ BK372.out) hb)
         replace HB := Aside0.mk (below_step (B3_ HB.out GE352.out GE371.out GE372.out) hb)
         (try clear hb)
         (try clear hb2)
         (try clear hk)
         (try clear hi)
         refine hK.out _ _ ⟨(blk_cell BK352.out 0).trans rfl, (blk_cell BK352.out 1).trans rfl, (blk_cell BK352.out 2).trans rfl, (blk_cell BK352.out 3).trans rfl, (blk_cell BK371.out 0).trans rfl, (blk_cell BK371.out 1).trans rfl, (blk_cell BK371.out 2).trans rfl, (blk_cell BK371.out 3).trans rfl, (blk_cell BK372.out 0).trans rfl, (blk_cell BK372.out 1).trans rfl, (blk_cell BK372.out 2).trans rfl, (blk_cell BK372.out 3).trans rfl⟩ (fun hHeld => ?_)
         clear hK K
         refine norm_ (a' := ?_) ?_ ?_
         rotate_left
         ·show Act.put _ (some 56) _ = _
          simp only [Act.put, List.setIfInBounds_toArray, List.set_cons_zero, List.set_cons_succ, i64_w, i32_w]
          rfl
         refine pure_ (i := 9) (N := some 59) (v := ?_) (a' := ?_) #[true, true, true, true, true, true, true, true, true, true, false, false, false, false, false, false, false, false, false, false, false, false, false, false, false, false, false, false, false, false, false, false, false, false, false] rfl rfl (any_of HT_.out (by kernel_rfl)) (fun _ _ _ h => h) (Or.inl ⟨by rfl, ?_⟩) ?_ ?_
         rotate_left
         ·intro w'
          go_simp
          with_reducible rfl
         rotate_left
         ·simp only [Act.put, List.setIfInBounds_toArray, List.set_cons_zero, List.set_cons_succ, i64_w, i32_w]
          rfl
         refine pure_ (i := 10) (N := some 60) (v := ?_) (a' := ?_) #[true, true, true, true, true, true, true, true, true, true, true, false, false, false, false, false, false, false, false, false, false, false, false, false, false, false, false, false, false, false, false, false, false, false, false] rfl rfl (any_of HT_.out (by kernel_rfl)) (fun _ _ _ h => h) (Or.inl ⟨by rfl, ?_⟩) ?_ ?_
         rotate_left
         ·intro w'
          go_simp
          with_reducible rfl
         rotate_left
         ·simp only [Act.put, List.setIfInBounds_toArray, List.set_cons_zero, List.set_cons_succ, i64_w, i32_w]
          rfl
         refine pure_ (i := 11) (N := some 61) (v := ?_) (a' := ?_) #[true, true, true, true, true, true, true, true, true, true, true, true, false, false, false, false, false, false, false, false, false, false, false, false, false, false, false, false, false, false, false, false, false, false, false] rfl rfl (any_of HT_.out (by kernel_rfl)) (fun _ _ _ h => h) (Or.inl ⟨by rfl, ?_⟩) ?_ ?_
         rotate_left
         ·intro w'
          go_simp
          with_reducible rfl
         rotate_left
         ·simp only [Act.put, List.setIfInBounds_toArray, List.set_cons_zero, List.set_cons_succ, i64_w, i32_w]
          rfl
         refine take_ (i := 12) (N := some 62) (v := ?_) (a' := ?_) #[true, true, true, true, true, true, true, true, true, true, true, true, true, false, false, false, false, false, false, false, false, false, false, false, false, false, false, false, false, false, false, false, false, false, false] rfl rfl (take_ofW HT_.out HW_.out (by kernel_rfl)) (fun _ _ _ h => h) (Or.inl ⟨by rfl, ?_⟩) hHeld ?_ ?_
         rotate_left
         ·rintro w' ⟨s0, s1, s2, s3, s4, s5, s6, s7, s8, s9, s10, s11⟩
          go_simp
          with_reducible rfl
         rotate_left
         ·simp only [Act.put, List.setIfInBounds_toArray, List.set_cons_zero, List.set_cons_succ, i64_w, i32_w]
          rfl
         refine take_ (i := 14) (N := some 64) (v := ?_) (a' := ?_) #[true, true, true, true, true, true, true, true, true, true, true, true, true, false, true, false, false, false, false, false, false, false, false, false, false, false, false, false, false, false, false, false, false, false, false] rfl rfl (take_ofW HT_.out HW_.out (by kernel_rfl)) (fun _ _ _ h => h) (Or.inl ⟨by rfl, ?_⟩) hHeld ?_ ?_
         rotate_left
         ·rintro w' ⟨s0, s1, s2, s3, s4, s5, s6, s7, s8, s9, s10, s11⟩
          go_simp
          with_reducible rfl
         rotate_left
         ·simp only [Act.put, List.setIfInBounds_toArray, List.set_cons_zero, List.set_cons_succ, i64_w, i32_w]
          rfl
         refine one_ (i := 13) (N := some 63) #[true, true, true, true, true, true, true, true, true, true, true, true, true, true, true, false, false, false, false, false, false, false, false, false, false, false, false, false, false, false, false, false, false, false, false] rfl rfl (one_of HT_.out (by kernel_rfl)) (by decide) (fun K hK => ?_)
         refine goes_ Try.func23 (by kernel_rfl) rfl #[.agg #[.int .i64 t346, .string t347, .int .i64 t348, .slice Ao9 t349.length co9]] (by rfl) rfl rfl ma_ ?_
         with_reducible refine (impl_IsOptic.calls k1 t346 t347 t348 _ _ t349 t376 _ ?side1 ?side2 A32.out).mono ?_
         (case side1 => exact C_ (Kd.N_reads' HO_353003.out).2.2)
         (case side2 => exact (Kd.N_reads' HO_353003.out).2.1)
         rintro e w55 ⟨rfl, hb⟩
         refine ⟨_, rfl, ?_⟩
         replace HO_353003 := Aside0.mk (Kd.N_below (N_ HO_353003.out) hb)
         replace HO364 := Aside0.mk (Kd.N_below (N_ HO364.out) hb)
         replace HO370 := Aside0.mk (Kd.N_below (N_ HO370.out) hb)
         replace BK352 := Aside0.mk (blk_below (K_ BK352.out) hb)
         replace BK371 := Aside0.mk (blk_below (K_ BK371.out) hb)
         replace BK372 := Aside0.mk (blk_below (K_ BK372.out) hb)
         replace HB := Aside0.mk (below_step (B3_ HB.out GE352.out GE371.out GE372.out) hb)
         (try clear hb)
         (try clear hb2)
         (try clear hk)
         (try clear hi)
         refine hK.out _ _ ⟨(blk_cell BK352.out 0).trans rfl, (blk_cell BK352.out 1).trans rfl, (blk_cell BK352.out 2).trans rfl, (blk_cell BK352.out 3).trans rfl, (blk_cell BK371.out 0).trans rfl, (blk_cell BK371.out 1).trans rfl, (blk_cell BK371.out 2).trans rfl, (blk_cell BK371.out 3).trans rfl, (blk_cell BK372.out 0).trans rfl, (blk_cell BK372.out 1).trans rfl, (blk_cell BK372.out 2).trans rfl, (blk_cell BK372.out 3).trans rfl⟩ (fun hHeld => ?_)
         clear hK K
         refine norm_ (a' := ?_) ?_ ?_
         rotate_left
         ·show Act.put _ (some 63) _ = _
          simp only [Act.put, List.setIfInBounds_toArray, List.set_cons_zero, List.set_cons_succ, i64_w, i32_w]
          rfl
         refine one_ (i := 15) (N := some 65) #[true, true, true, true, true, true, true, true, true, true, true, true, true, true, true, true, false, false, false, false, false, false, false, false, false, false, false, false, false, false, false, false, false, false, false] rfl rfl (one_of HT_.out (by kernel_rfl)) (by decide) (fun K hK => ?_)
         refine goes_ Try.func22 (by kernel_rfl) rfl #[.agg #[.int .i64 t346, .string t347, .int .i64 t348, .slice Ao9 t349.length co9]] (by rfl) rfl rfl ma_ ?_
         with_reducible refine (spec_IsOptic.calls k1 t346 t347 t348 _ _ t349 t377 _ ?side1 ?side2 A33.out).mono ?_
         (case side1 => exact C_ (Kd.N_reads' HO_353003.out).2.2)
         (case side2 => exact (Kd.N_reads' HO_353003.out).2.1)
         rintro e w56 ⟨rfl, hb⟩
         refine ⟨_, rfl, ?_⟩
         replace HO_353003 := Aside0.mk (Kd.N_below (N_ HO_353003.out) hb)
         replace HO364 := Aside0.mk (Kd.N_below (N_ HO364.out) hb)
         replace HO370 := Aside0.mk (Kd.N_below (N_ HO370.out) hb)
         replace BK352 := Aside0.mk (blk_below (K_ BK352.out) hb)
         replace BK371 := Aside0.mk (blk_below (K_ BK371.out) hb)
         replace BK372 := Aside0.mk (blk_below (K_ BK372.out) hb)
         replace HB := Aside0.mk (below_step (B3_ HB.out GE352.out GE371.out GE372.out) hb)
         (try clear hb)
         (try clear hb2)
         (try clear hk)
         (try clear hi)
         refine hK.out _ _ ⟨(blk_cell BK352.out 0).trans rfl, (blk_cell BK352.out 1).trans rfl, (blk_cell BK352.out 2).trans rfl, (blk_cell BK352.out 3).trans rfl, (blk_cell BK371.out 0).trans rfl, (blk_cell BK371.out 1).trans rfl, (blk_cell BK371.out 2).trans rfl, (blk_cell BK371.out 3).trans rfl, (blk_cell BK372.out 0).trans rfl, (blk_cell BK372.out 1).trans rfl, (blk_cell BK372.out 2).trans rfl, (blk_cell BK372.out 3).trans rfl⟩ (fun hHeld => ?_)
         clear hK K
         refine norm_ (a' := ?_) ?_ ?_
         rotate_left
         ·show Act.put _ (some 65) _ = _
          simp only [Act.put, List.setIfInBounds_toArray, List.set_cons_zero, List.set_cons_succ, i64_w, i32_w]
          rfl
         refine pure_ (i := 16) (N := some 66) (v := ?_) (a' := ?_) #[true, true, true, true, true, true, true, true, true, true, true, true, true, true, true, true, true, false, false, false, false, false, false, false, false, false, false, false, false, false, false, false, false, false, false] rfl rfl (any_of HT_.out (by kernel_rfl)) (fun _ _ _ h => h) (Or.inl ⟨by rfl, ?_⟩) ?_ ?_
         rotate_left
         ·intro w'
          go_simp
          with_reducible rfl
         rotate_left
         ·simp only [Act.put, List.setIfInBounds_toArray, List.set_cons_zero, List.set_cons_succ, i64_w, i32_w]
          rfl
         refine pure_ (i := 17) (N := some 67) (v := ?_) (a' := ?_) #[true, true, true, true, true, true, true, true, true, true, true, true, true, true, true, true, true, true, false, false, false, false, false, false, false, false, false, false, false, false, false, false, false, false, false] rfl rfl (any_of HT_.out (by kernel_rfl)) (fun _ _ _ h => h) (Or.inl ⟨by rfl, ?_⟩) ?_ ?_
         rotate_left
         ·intro w'
          go_simp
          with_reducible rfl
         rotate_left
         ·simp only [Act.put, List.setIfInBounds_toArray, List.set_cons_zero, List.set_cons_succ, i64_w, i32_w]
          rfl
         refine pure_ (i := 18) (N := some 68) (v := ?_) (a' := ?_) #[true, true, true, true, true, true, true, true, true, true, true, true, true, true, true, true, true, true, true, false, false, false, false, false, false, false, false, false, false, false, false, false, false, false, false] rfl rfl (any_of HT_.out (by kernel_rfl)) (fun _ _ _ h => h) (Or.inl ⟨by rfl, ?_⟩) ?_ ?_
         rotate_left
         ·intro w'
          go_simp
          with_reducible rfl
         rotate_left
         ·simp only [Act.put, List.setIfInBounds_toArray, List.set_cons_zero, List.set_cons_succ, i64_w, i32_w]
          rfl
         refine take_ (i := 19) (N := some 69) (v := ?_) (a' := ?_) #[true, true, true, true, true, true, true, true, true, true, true, true, true, true, true, true, true, true, true, true, false, false, false, false, false, false, false, false, false, false, false, false, false, false, false] rfl rfl (take_ofW HT_.out HW_.out (by kernel_rfl)) (fun _ _ _ h => h) (Or.inl ⟨by rfl, ?_⟩) hHeld ?_ ?_
         rotate_left
         ·rintro w' ⟨s0, s1, s2, s3, s4, s5, s6, s7, s8, s9, s10, s11⟩
          go_simp
          with_reducible rfl
         rotate_left
         ·simp only [Act.put, List.setIfInBounds_toArray, List.set_cons_zero, List.set_cons_succ, i64_w, i32_w]
          rfl
         refine take_ (i := 20) (N := some 70) (v := ?_) (a' := ?_) #[true, true, true, true, true, true, true, true, true, true, true, true, true, true, true, true, true, true, true, true, true, false, false, false, false, false, false, false, false, false, false, false, false, false, false] rfl rfl (take_ofW HT_.out HW_.out (by kernel_rfl)) (fun _ _ _ h => h) (Or.inl ⟨by rfl, ?_⟩) hHeld ?_ ?_
         rotate_left
         ·rintro w' ⟨s0, s1, s2, s3, s4, s5, s6, s7, s8, s9, s10, s11⟩
          go_simp
          with_reducible rfl
         rotate_left
         ·simp only [Act.put, List.setIfInBounds_toArray, List.set_cons_zero, List.set_cons_succ, i64_w, i32_w]
          rfl
         refine take_ (i := 22) (N := some 72) (v := ?_) (a' := ?_) #[true, true, true, true, true, true, true, true, true, true, true, true, true, true, true, true, true, true, true, true, true, false, true, false, false, false, false, false, false, false, false, false, false, false, false] rfl rfl (take_ofW HT_.out HW_.out (by kernel_rfl)) (fun _ _ _ h => h) (Or.inl ⟨by rfl, ?_⟩) hHeld ?_ ?_
         rotate_left
         ·rintro w' ⟨s0, s1, s2, s3, s4, s5, s6, s7, s8, s9, s10, s11⟩
          go_simp
          with_reducible rfl
         rotate_left
         ·simp only [Act.put, List.setIfInBounds_toArray, List.set_cons_zero, List.set_cons_succ, i64_w, i32_w]
          rfl
         refine take_ (i := 23) (N := some 73) (v := ?_) (a' := ?_) #[true, true, true, true, true, true, true, true, true, true, true, true, true, true, true, true, true, true, true, true, true, false, true, true, false, false, false, false, false, false, false, false, false, false, false] rfl rfl (take_ofW HT_.out HW_.out (by kernel_rfl)) (fun _ _ _ h => h) (Or.inl ⟨by rfl, ?_⟩) hHeld ?_ ?_
         rotate_left
         ·rintro w' ⟨s0, s1, s2, s3, s4, s5, s6, s7, s8, s9, s10, s11⟩
          go_simp
          with_reducible rfl
         rotate_left
         ·simp only [Act.put, List.setIfInBounds_toArray, List.set_cons_zero, List.set_cons_succ, i64_w, i32_w]
          rfl
         refine one_ (i := 21) (N := some 71) #[true, true, true, true, true, true, true, true, true, true, true, true, true, true, true, true, true, true, true, true, true, true, true, true, false, false, false, false, false, false, false, false, false, false, false] rfl rfl (one_of HT_.out (by kernel_rfl)) (by decide) (fun K hK => ?_)
         refine goes_ Try.func21 (by kernel_rfl) rfl #[.agg #[.int .i64 t359, .string t360, .int .i64 t361, .slice Ao47 t362.length co47], .agg #[.int .i64 t365, .string t366, .int .i64 t367, .slice Ao50 t368.length co50]] (by rfl) rfl rfl ma_ ?_
         with_reducible refine (impl_EqualOptic.calls k1 t359 t360 t361 _ _ t362 t365 t366 t367 _ _ t368 t378 _ ?side1 ?side2 ?side3 ?side4 A35.out).mono ?_
         (case side1 => exact C_ (Kd.N_reads' HO364.out).2.2)
         (case side2 => exact (Kd.N_reads' HO364.out).2.1)
         (case side3 => exact C_ (Kd.N_reads' HO370.out).2.2)
         (case side4 => exact (Kd.N_reads' HO370.out).2.1)
         rintro e w57 ⟨rfl, hb⟩
         refine ⟨_, rfl, ?_⟩
         replace HO_353003 := Aside0.mk (Kd.N_below (N_ HO_353003.out) hb)
         replace HO364 := Aside0.mk (Kd.N_below (N_ HO364.out) hb)
         replace HO370 := Aside0.mk (Kd.N_below (N_ HO370.out) hb)
         replace BK352 := Aside0.mk (blk_below (K_ BK352.out) hb)
         replace BK371 := Aside0.mk (blk_below (K_ BK371.out) hb)
         replace BK372 := Aside0.mk (blk_below (K_ BK372.out) hb)
         replace HB := Aside0.mk (below_step (B3_ HB.out GE352.out GE371.out GE372.out) hb)
         (try clear hb)
         (try clear hb2)
         (try clear hk)
         (try clear hi)
         refine hK.out _ _ ⟨(blk_cell BK352.out 0).trans rfl, (blk_cell BK352.out 1).trans rfl, (blk_cell BK352.out 2).trans rfl, (blk_cell BK352.out 3).trans rfl, (blk_cell BK371.out 0).trans rfl, (blk_cell BK371.out 1).trans rfl, (blk_cell BK371.out 2).trans rfl, (blk_cell BK371.out 3).trans rfl, (blk_cell BK372.out 0).trans rfl, (blk_cell BK372.out 1).trans rfl, (blk_cell BK372.out 2).trans rfl, (blk_cell BK372.out 3).trans rfl⟩ (fun hHeld => ?_)
         clear hK K
         refine norm_ (a' := ?_) ?_ ?_
         rotate_left
         ·show Act.put _ (some 71) _ = _
          simp only [Act.put, List.setIfInBounds_toArray, List.set_cons_zero, List.set_cons_succ, i64_w, i32_w]
          rfl
         refine one_ (i := 24) (N := some 74) #[true, true, true, true, true, true, true, true, true, true, true, true, true, true, true, true, true, true, true, true, true, true, true, true, true, false, false, false, false, false, false, false, false, false, false] rfl rfl (one_of HT_.out (by kernel_rfl)) (by decide) (fun K hK => ?_)
         refine goes_ Try.func20 (by kernel_rfl) rfl #[.agg #[.int .i64 t359, .string t360, .int .i64 t361, .slice Ao47 t362.length co47], .agg #[.int .i64 t365, .string t366, .int .i64 t367, .slice Ao50 t368.length co50]] (by rfl) rfl rfl ma_ ?_
         with_reducible refine (spec_EqualOptic.calls k1 t359 t360 t361 _ _ t362 t365 t366 t367 _ _ t368 t379 _ ?side1 ?side2 ?side3 ?side4 A36.out).mono ?_
         (case side1 => exact C_ (Kd.N_reads' HO364.out).2.2)
         (case side2 => exact (Kd.N_reads' HO364.out).2.1)
         (case side3 => exact C_ (Kd.N_reads' HO370.out).2.2)
         (case side4 => exact (Kd.N_reads' HO370.out).2.1)
         rintro e w58 ⟨rfl, hb⟩
         refine ⟨_, rfl, ?_⟩
         replace HO_353003 := Aside0.mk (Kd.N_below (N_ HO_353003.out) hb)
         replace HO364 := Aside0.mk (Kd.N_below (N_ HO364.out) hb)
         replace HO370 := Aside0.mk (Kd.N_below (N_ HO370.out) hb)
         replace BK352 := Aside0.mk (blk_below (K_ BK352.out) hb)
         replace BK371 := Aside0.mk (blk_below (K_ BK371.out) hb)
         replace BK372 := Aside0.mk (blk_below (K_ BK372.out) hb)
         replace HB := Aside0.mk (below_step (B3_ HB.out GE352.out GE371.out GE372.out) hb)
         (try clear hb)
         (try clear hb2)
         (try clear hk)
         (try clear hi)
         refine hK.out _ _ ⟨(blk_cell BK352.out 0).trans rfl, (blk_cell BK352.out 1).trans rfl, (blk_cell BK352.out 2).trans rfl, (blk_cell BK352.out 3).trans rfl, (blk_cell BK371.out 0).trans rfl, (blk_cell BK371.out 1).trans rfl, (blk_cell BK371.out 2).trans rfl, (blk_cell BK371.out 3).trans rfl, (blk_cell BK372.out 0).trans rfl, (blk_cell BK372.out 1).trans rfl, (blk_cell BK372.out 2).trans rfl, (blk_cell BK372.out 3).trans rfl⟩ (fun hHeld => ?_)
         clear hK K
         refine norm_ (a' := ?_) ?_ ?_
         rotate_left
         ·show Act.put _ (some 74) _ = _
          simp only [Act.put, List.setIfInBounds_toArray, List.set_cons_zero, List.set_cons_succ, i64_w, i32_w]
          rfl
         refine pure_ (i := 25) (N := some 75) (v := ?_) (a' := ?_) #[true, true, true, true, true, true, true, true, true, true, true, true, true, true, true, true, true, true, true, true, true, true, true, true, true, true, false, false, false, false, false, false, false, false, false] rfl rfl (any_of HT_.out (by kernel_rfl)) (fun _ _ _ h => h) (Or.inl ⟨by rfl, ?_⟩) ?_ ?_
         rotate_left
         ·intro w'
          go_simp
          with_reducible rfl
         rotate_left
         ·simp only [Act.put, List.setIfInBounds_toArray, List.set_cons_zero, List.set_cons_succ, i64_w, i32_w]
          rfl
         refine pure_ (i := 26) (N := some 76) (v := ?_) (a' := ?_) #[true, true, true, true, true, true, true, true, true, true, true, true, true, true, true, true, true, true, true, true, true, true, true, true, true, true, true, false, false, false, false, false, false, false, false] rfl rfl (any_of HT_.out (by kernel_rfl)) (fun _ _ _ h => h) (Or.inl ⟨by rfl, ?_⟩) ?_ ?_
         rotate_left
         ·intro w'
          go_simp
          with_reducible rfl
         rotate_left
         ·simp only [Act.put, List.setIfInBounds_toArray, List.set_cons_zero, List.set_cons_succ, i64_w, i32_w]
          rfl
         refine pure_ (i := 27) (N := some 77) (v := ?_) (a' := ?_) #[true, true, true, true, true, true, true, true, true, true, true, true, true, true, true, true, true, true, true, true, true, true, true, true, true, true, true, true, false, false, false, false, false, false, false] rfl rfl (any_of HT_.out (by kernel_rfl)) (fun _ _ _ h => h) (Or.inl ⟨by rfl, ?_⟩) ?_ ?_
         rotate_left
         ·intro w'
          go_simp
          with_reducible rfl
         rotate_left
         ·simp only [Act.put, List.setIfInBounds_toArray, List.set_cons_zero, List.set_cons_succ, i64_w, i32_w]
          rfl
         refine pure_ (i := 28) (N := some 78) (v := ?_) (a' := ?_) #[true, true, true, true, true, true, true, true, true, true, true, true, true, true, true, true, true, true, true, true, true, true, true, true, true, true, true, true, true, false, false, false, false, false, false] rfl rfl (any_of HT_.out (by kernel_rfl)) (fun _ _ _ h => h) (Or.inl ⟨by rfl, ?_⟩) ?_ ?_
         rotate_left
         ·intro w'
          go_simp
          with_reducible rfl
         rotate_left
         ·simp only [Act.put, List.setIfInBounds_toArray, List.set_cons_zero, List.set_cons_succ, i64_w, i32_w]
          rfl
         refine pure_ (i := 30) (N := some 80) (v := ?_) (a' := ?_) #[true, true, true, true, true, true, true, true, true, true, true, true, true, true, true, true, true, true, true, true, true, true, true, true, true, true, true, true, true, false, true, false, false, false, false] rfl rfl (any_of HT_.out (by kernel_rfl)) (fun _ _ _ h => h) (Or.inl ⟨by rfl, ?_⟩) ?_ ?_
         rotate_left
         ·intro w'
          go_simp
          with_reducible rfl
         rotate_left
         ·simp only [Act.put, List.setIfInBounds_toArray, List.set_cons_zero, List.set_cons_succ, i64_w, i32_w]
          rfl
         refine one_ (i := 29) (N := some 79) #[true, true, true, true, true, true, true, true, true, true, true, true, true, true, true, true, true, true, true, true, true, true, true, true, true, true, true, true, true, true, true, false, false, false, false] rfl rfl (one_of HT_.out (by kernel_rfl)) (by decide) (fun K hK => ?_)
         refine goes_ Try.func32 (by kernel_rfl) rfl #[.int .i64 t373] (by rfl) rfl rfl ma_ ?_
         with_reducible refine (impl_ArityOf.calls k1 t373 t380 _ A38.out).mono ?_
         rintro e w' ⟨rfl, ⟨nd, rfl⟩⟩
         refine ⟨_, rfl, ?_⟩
         refine hK.out _ _ ⟨(blk_cell BK352.out 0).trans rfl, (blk_cell BK352.out 1).trans rfl, (blk_cell BK352.out 2).trans rfl, (blk_cell BK352.out 3).trans rfl, (blk_cell BK371.out 0).trans rfl, (blk_cell BK371.out 1).trans rfl, (blk_cell BK371.out 2).trans rfl, (blk_cell BK371.out 3).trans rfl, (blk_cell BK372.out 0).trans rfl, (blk_cell BK372.out 1).trans rfl, (blk_cell BK372.out 2).trans rfl, (blk_cell BK372.out 3).trans rfl⟩ (fun hHeld => ?_)
         clear hK K
         refine norm_ (a' := ?_) ?_ ?_
         rotate_left
         ·show Act.put _ (some 79) _ = _
          simp only [Act.put, List.setIfInBounds_toArray, List.set_cons_zero, List.set_cons_succ, i64_w, i32_w]
          rfl
         refine one_ (i := 31) (N := some 81) #[true, true, true, true, true, true, true, true, true, true, true, true, true, true, true, true, true, true, true, true, true, true, true, true, true, true, true, true, true, true, true, true, false, false, false] rfl rfl (one_of HT_.out (by kernel_rfl)) (by decide) (fun K hK => ?_)
         refine goes_ Try.func33 (by kernel_rfl) rfl #[.int .i64 t373] (by rfl) rfl rfl ma_ ?_
         with_reducible refine (spec_ArityOf.calls k1 t373 t381 _ A39.out).mono ?_
         rintro e w' ⟨rfl, ⟨nd, rfl⟩⟩
         refine ⟨_, rfl, ?_⟩
         refine hK.out _ _ ⟨(blk_cell BK352.out 0).trans rfl, (blk_cell BK352.out 1).trans rfl, (blk_cell BK352.out 2).trans rfl, (blk_cell BK352.out 3).trans rfl, (blk_cell BK371.out 0).trans rfl, (blk_cell BK371.out 1).trans rfl, (blk_cell BK371.out 2).trans rfl, (blk_cell BK371.out 3).trans rfl, (blk_cell BK372.out 0).trans rfl, (blk_cell BK372.out 1).trans rfl, (blk_cell BK372.out 2).trans rfl, (blk_cell BK372.out 3).trans rfl⟩ (fun hHeld => ?_)
         clear hK K
         refine norm_ (a' := ?_) ?_ ?_
         rotate_left
         ·show Act.put _ (some 81) _ = _
          simp only [Act.put, List.setIfInBounds_toArray, List.set_cons_zero, List.set_cons_succ, i64_w, i32_w]
          rfl
         refine pure_ (i := 32) (N := some 82) (v := ?_) (a' := ?_) #[true, true, true, true, true, true, true, true, true, true, true, true, true, true, true, true, true, true, true, true, true, true, true, true, true, true, true, true, true, true, true, true, true, false, false] rfl rfl (any_of HT_.out (by kernel_rfl)) (fun _ _ _ h => h) (Or.inl ⟨by rfl, ?_⟩) ?_ ?_
         rotate_left
         ·intro w'
          go_simp
          with_reducible rfl
         rotate_left
         ·simp only [Act.put, List.setIfInBounds_toArray, List.set_cons_zero, List.set_cons_succ, i64_w, i32_w]
          rfl
         refine pure_ (i := 33) (N := some 83) (v := ?_) (a' := ?_) #[true, true, true, true, true, true, true, true, true, true, true, true, true, true, true, true, true, true, true, true, true, true, true, true, true, true, true, true, true, true, true, true, true, true, false] rfl rfl (any_of HT_.out (by kernel_rfl)) (fun _ _ _ h => h) (Or.inl ⟨by rfl, ?_⟩) ?_ ?_
         rotate_left
         ·intro w'
          go_simp
          with_reducible rfl
         rotate_left
         ·simp only [Act.put, List.setIfInBounds_toArray, List.set_cons_zero, List.set_cons_succ, i64_w, i32_w]
          rfl
         refine pure_ (i := 34) (N := some 2) (v := ?_) (a' := ?_) #[true, true, true, true, true, true, true, true, true, true, true, true, true, true, true, true, true, true, true, true, true, true, true, true, true, true, true, true, true, true, true, true, true, true, true] rfl rfl (any_of HT_.out (by kernel_rfl)) (fun _ _ _ h => h) (Or.inl ⟨by rfl, ?_⟩) ?_ ?_
         rotate_left
         ·intro w'
          go_simp
          with_reducible rfl
         rotate_left
         ·simp only [Act.put, List.setIfInBounds_toArray, List.set_cons_zero, List.set_cons_succ, i64_w, i32_w]
          rfl
         refine done_ (done_of HT_.out (by kernel_rfl)) ?_
         try go_wp2
         go_ret
         exact ⟨er_, B3_ HB.out GE352.out GE371.out GE372.out⟩
        ·rw [if_neg c37] at H
         have c37b0 : (t378 == t379) = false := by simpa using c37
         (try (have c37b1 : decide (t378 = t379) = false := by simpa using c37))
         (try (have c37b2 : (t378 == t379) = false := by simpa using c37))
         (try (have c37b3 : ¬ (t378 = t379) := by simpa using c37))
         clear c37
         obtain rfl := Option.some.inj H
         obtain ⟨hcz59_0, hcz59_1, hcz59_2, hcz59_3, hfz59_0, hfz59_1, hfz59_2, hfz59_3⟩ := box4_ BK352.out
         try go_wp2_with (first | ((with_reducible refine gate_callee (f := 30) rfl ?_); refine goesL_ (some 45) rfl rfl Try.func30 (by kernel_rfl) rfl #[.slice A0 l0.length c0] rfl ma_ ?_; (with_reducible refine (spec_DrawEqualOptic.calls k1 _ _ l0 t359 t360 t361 t362 t365 t366 t367 t368 _ ?side1 ?side2 A26.out).mono ?_); (case side1 => exact C_ (Kd.C_below HR0.out HB.out)); (case side2 => exact HC0.out); rintro e w60 ⟨v363, v369, rfl, ho0, ho1, hb⟩; refine ⟨_, rfl, ?_⟩; have HO364 := Aside0.mk (Kd.N_lower (Kd.N_mono (ok' := fun k_ => some k_ ≠ (v369 : Value).ownBlock ∧ some k_ ≠ (.slice Ao9 t349.length co9 : Value).ownBlock ∧ k_ ≠ gb352) (Kd.R_N (Kd.R_bound ho0)) (fun k_ hk_ => ⟨hk_.1, (Kd.fresh' (Kd.N_lt (N_ HO_353003.out)) k_ hk_.2.1), (Kd.freshB (K_ BK352.out) k_ hk_.2.1)⟩)) (below_size (B1_ HB.out GE352.out))); have HO370 := Aside0.mk (Kd.N_lower (Kd.N_mono (ok' := fun k_ => some k_ ≠ (v363 : Value).ownBlock ∧ some k_ ≠ (.slice Ao9 t349.length co9 : Value).ownBlock ∧ k_ ≠ gb352) (Kd.R_N (Kd.R_bound ho1)) (fun k_ hk_ => ⟨hk_.1, (Kd.fresh' (Kd.N_lt (N_ HO_353003.out)) k_ hk_.2.1), (Kd.freshB (K_ BK352.out) k_ hk_.2.1)⟩)) (below_size (B1_ HB.out GE352.out))); replace HO_353003 := Aside0.mk (Kd.N_mono (Kd.N_told (Kd.N_told (Kd.N_old (N_ HO_353003.out) hb) (Kd.R_base ho0)) (Kd.R_base ho1)) (fun _ h_ => h_.1)); replace BK352 := Aside0.mk (blk_below (K_ BK352.out) hb); replace HB := Aside0.mk (below_step (B1_ HB.out GE352.out) hb); (try clear hb); (try clear hb2); (try clear hk); (try clear hi); (try clear ho0); (try clear ho1)) | ((with_reducible refine gate_dst (N := 7) rfl ?_); refine box_event ?hg (N := 7) ?hd (cs := #[.int .i64 0, .string (⟨#[]⟩ : ByteArray), .int .i64 0, .slice none 0 0]) (t := 29) ?hr ?_; (case hd => rfl); (case hg => rfl); (case hr => first | (go_simp; done) | (go_simp; rfl)); intro gb371 hg w61 hbox hb; replace HO_353003 := Aside0.mk (Kd.N_below (Kd.N_elderB (N_ HO_353003.out) gb371 (Nat.le_of_eq hg.symm)) hb); replace HO364 := Aside0.mk (Kd.N_below (Kd.N_elderB (N_ HO364.out) gb371 (Nat.le_of_eq hg.symm)) hb); replace HO370 := Aside0.mk (Kd.N_below (Kd.N_elderB (N_ HO370.out) gb371 (Nat.le_of_eq hg.symm)) hb); have BK371 := Aside0.mk (hbox); have GW371 := Aside0.mk ((by rw [hg]; exact (below_size (B1_ HB.out GE352.out)) : w.heap.size ≤ gb371)); have GE371 := Aside0.mk ((by rw [hg]; exact (below_size (B1_ HB.out GE352.out)) : w.heap.size ≤ gb371)); replace HB := Aside0.mk (below_step (B1_ HB.out GE352.out) hb); have NB352_371 := Aside0.mk ((by rw [hg]; exact Nat.ne_of_lt (blk_lt (K_ BK352.out)) : gb352 ≠ gb371)); have NB371_352 := Aside0.mk ((by rw [hg]; exact Nat.ne_of_gt (blk_lt (K_ BK352.out)) : gb371 ≠ gb352)); replace BK352 := Aside0.mk (blk_below (K_ BK352.out) hb); clear hb hbox hg) | ((with_reducible refine gate_dst (N := 8) rfl ?_); refine box_event ?hg (N := 8) ?hd (cs := #[.int .i64 0, .string (⟨#[]⟩ : ByteArray), .int .i64 0, .slice none 0 0]) (t := 29) ?hr ?_; (case hd => rfl); (case hg => rfl); (case hr => first | (go_simp; done) | (go_simp; rfl)); intro gb372 hg w62 hbox hb; replace HO_353003 := Aside0.mk (Kd.N_below (Kd.N_elderB (N_ HO_353003.out) gb372 (Nat.le_of_eq hg.symm)) hb); replace HO364 := Aside0.mk (Kd.N_below (Kd.N_elderB (N_ HO364.out) gb372 (Nat.le_of_eq hg.symm)) hb); replace HO370 := Aside0.mk (Kd.N_below (Kd.N_elderB (N_ HO370.out) gb372 (Nat.le_of_eq hg.symm)) hb); have BK372 := Aside0.mk (hbox); have GW372 := Aside0.mk ((by rw [hg]; exact (below_size (B2_ HB.out GE352.out GE371.out)) : w.heap.size ≤ gb372)); have GE372 := Aside0.mk ((by rw [hg]; exact (below_size (B2_ HB.out GE352.out GE371.out)) : w.heap.size ≤ gb372)); replace HB := Aside0.mk (below_step (B2_ HB.out GE352.out GE371.out) hb); have NB352_372 := Aside0.mk ((by rw [hg]; exact Nat.ne_of_lt (blk_lt (K_ BK352.out)) : gb352 ≠ gb372)); have NB372_352 := Aside0.mk ((by rw [hg]; exact Nat.ne_of_gt (blk_lt (K_ BK352.out)) : gb372 ≠ gb352)); replace BK352 := Aside0.mk (blk_below (K_ BK352.out) hb); have NB371_372 := Aside0.mk ((by rw [hg]; exact Nat.ne_of_lt (blk_lt (K_ BK371.out)) : gb371 ≠ gb372)); have NB372_371 := Aside0.mk ((by rw [hg]; exact Nat.ne_of_gt (blk_lt (K_ BK371.out)) : gb372 ≠ gb371)); replace BK371 := Aside0.mk (blk_below (K_ BK371.out) hb); clear hb hbox hg; have hnb63 := NB371_352.out; have hnc63 := NB352_371.out; have hnb64 := NB371_372.out; have hnc64 := NB372_371.out; obtain ⟨hcz65_0, hcz65_1, hcz65_2, hcz65_3, hfz65_0, hfz65_1, hfz65_2, hfz65_3⟩ := box4_ BK371.out; obtain ⟨Ao66, co66, eo66⟩ := Kd.N_slice HO364.out; subst eo66; have hnb67 := NB372_352.out; have hnc67 := NB352_372.out; obtain ⟨hcz68_0, hcz68_1, hcz68_2, hcz68_3, hfz68_0, hfz68_1, hfz68_2, hfz68_3⟩ := box4_ BK372.out; obtain ⟨Ao69, co69, eo69⟩ := Kd.N_slice HO370.out; subst eo69) | ((with_reducible refine gate_callee (f := 31) rfl ?_); refine goesL_ (some 49) rfl rfl Try.func31 (by kernel_rfl) rfl #[.slice A0 l0.length c0] rfl ma_ ?_; (with_reducible refine (spec_DrawArityOf.calls k1 _ _ l0 t373 _ ?side1 ?side2 A27.out).mono ?_); (case side1 => exact Kd.C_below HR0.out (B3_ HB.out GE352.out GE371.out GE372.out)); (case side2 => exact HC0.out); rintro e w70 ⟨rfl, hb⟩; refine ⟨_, rfl, ?_⟩; replace HO_353003 := Aside0.mk (Kd.N_below (by (with_reducible repeat (first | apply Kd.N_alloc | apply Kd.N_drewN | apply Kd.N_drew)); exact (Kd.N_mono (Kd.N_mono (Kd.N_far (p := ⟨gb372, 3, none⟩) (Kd.N_far (p := ⟨gb372, 2, none⟩) (Kd.N_far (p := ⟨gb372, 1, none⟩) (Kd.N_far (p := ⟨gb372, 0, none⟩) (Kd.N_far (p := ⟨gb371, 3, none⟩) (Kd.N_far (p := ⟨gb371, 2, none⟩) (Kd.N_far (p := ⟨gb371, 1, none⟩) (Kd.N_far (p := ⟨gb371, 0, none⟩) (Kd.N_mono (Kd.N_mono HO_353003.out (fun k_ hk => (⟨hk, hk.1.2⟩ : _ ∧ k_ ≠ gb371))) (fun k_ hk => (⟨hk, hk.1.2⟩ : _ ∧ k_ ≠ gb372))) (fun _ hk => hk.1.2) (.int .i64 t359)) (fun _ hk => hk.1.2) (.string t360)) (fun _ hk => hk.1.2) (.int .i64 t361)) (fun _ hk => hk.1.2) (.slice Ao66 t362.length co66)) (fun _ hk => hk.2) (.int .i64 t365)) (fun _ hk => hk.2) (.string t366)) (fun _ hk => hk.2) (.int .i64 t367)) (fun _ hk => hk.2) (.slice Ao69 t368.length co69)) (fun _ h_ => h_.1)) (fun _ h_ => h_.1))) hb); replace HO364 := Aside0.mk (Kd.N_below (by (with_reducible repeat (first | apply Kd.N_alloc | apply Kd.N_drewN | apply Kd.N_drew)); exact (Kd.N_mono (Kd.N_mono (Kd.N_far (p := ⟨gb372, 3, none⟩) (Kd.N_far (p := ⟨gb372, 2, none⟩) (Kd.N_far (p := ⟨gb372, 1, none⟩) (Kd.N_far (p := ⟨gb372, 0, none⟩) (Kd.N_far (p := ⟨gb371, 3, none⟩) (Kd.N_far (p := ⟨gb371, 2, none⟩) (Kd.N_far (p := ⟨gb371, 1, none⟩) (Kd.N_far (p := ⟨gb371, 0, none⟩) (Kd.N_mono (Kd.N_mono HO364.out (fun k_ hk => (⟨hk, hk.1.2⟩ : _ ∧ k_ ≠ gb371))) (fun k_ hk => (⟨hk, hk.1.2⟩ : _ ∧ k_ ≠ gb372))) (fun _ hk => hk.1.2) (.int .i64 t359)) (fun _ hk => hk.1.2) (.string t360)) (fun _ hk => hk.1.2) (.int .i64 t361)) (fun _ hk => hk.1.2) (.slice Ao66 t362.length co66)) (fun _ hk => hk.2) (.int .i64 t365)) (fun _ hk => hk.2) (.string t366)) (fun _ hk => hk.2) (.int .i64 t367)) (fun _ hk => hk.2) (.slice Ao69 t368.length co69)) (fun _ h_ => h_.1)) (fun _ h_ => h_.1))) hb); replace HO370 := Aside0.mk (Kd.N_below (by (with_reducible repeat (first | apply Kd.N_alloc | apply Kd.N_drewN | apply Kd.N_drew)); exact (Kd.N_mono (Kd.N_mono (Kd.N_far (p := ⟨gb372, 3, none⟩) (Kd.N_far (p := ⟨gb372, 2, none⟩) (Kd.N_far (p := ⟨gb372, 1, none⟩) (Kd.N_far (p := ⟨gb372, 0, none⟩) (Kd.N_far (p := ⟨gb371, 3, none⟩) (Kd.N_far (p := ⟨gb371, 2, none⟩) (Kd.N_far (p := ⟨gb371, 1, none⟩) (Kd.N_far (p := ⟨gb371, 0, none⟩) (Kd.N_mono (Kd.N_mono HO370.out (fun k_ hk => (⟨hk, hk.1.2⟩ : _ ∧ k_ ≠ gb371))) (fun k_ hk => (⟨hk, hk.1.2⟩ : _ ∧ k_ ≠ gb372))) (fun _ hk => hk.1.2) (.int .i64 t359)) (fun _ hk => hk.1.2) (.string t360)) (fun _ hk => hk.1.2) (.int .i64 t361)) (fun _ hk => hk.1.2) (.slice Ao66 t362.length co66)) (fun _ hk => hk.2) (.int .i64 t365)) (fun _ hk => hk.2) (.string t366)) (fun _ hk => hk.2) (.int .i64 t367)) (fun _ hk => hk.2) (.slice Ao69 t368.length co69)) (fun _ h_ => h_.1)) (fun _ h_ => h_.1))) hb); replace BK352 := Aside0.mk (blk_below (g := gb352) (o := .cells #[.int .i64 t346, .string t347, .int .i64 t348, .slice Ao9 t349.length co9] 29 (0, 0)) (by (with_reducible repeat (first | refine blk_drewN ?_ _ | refine blk_drew ?_ | refine blk_alloc ?_ _)); refine blk_far ?_ NB352_372.out _; (with_reducible repeat (first | refine blk_drewN ?_ _ | refine blk_drew ?_ | refine blk_alloc ?_ _)); refine blk_far ?_ NB352_372.out _; (with_reducible repeat (first | refine blk_drewN ?_ _ | refine blk_drew ?_ | refine blk_alloc ?_ _)); refine blk_far ?_ NB352_372.out _; (with_reducible repeat (first | refine blk_drewN ?_ _ | refine blk_drew ?_ | refine blk_alloc ?_ _)); refine blk_far ?_ NB352_372.out _; (with_reducible repeat (first | refine blk_drewN ?_ _ | refine blk_drew ?_ | refine blk_alloc ?_ _)); refine blk_far ?_ NB352_371.out _; (with_reducible repeat (first | refine blk_drewN ?_ _ | refine blk_drew ?_ | refine blk_alloc ?_ _)); refine blk_far ?_ NB352_371.out _; (with_reducible repeat (first | refine blk_drewN ?_ _ | refine blk_drew ?_ | refine blk_alloc ?_ _)); refine blk_far ?_ NB352_371.out _; (with_reducible repeat (first | refine blk_drewN ?_ _ | refine blk_drew ?_ | refine blk_alloc ?_ _)); refine blk_far ?_ NB352_371.out _; (with_reducible repeat (first | refine blk_drewN ?_ _ | refine blk_drew ?_ | refine blk_alloc ?_ _)); exact BK352.out) hb); replace BK371 := Aside0.mk (blk_below (g := gb371) (o := .cells #[.int .i64 t359, .string t360, .int .i64 t361, .slice Ao66 t362.length co66] 29 (0, 0)) (by (with_reducible repeat (first | refine blk_drewN ?_ _ | refine blk_drew ?_ | refine blk_alloc ?_ _)); refine blk_far ?_ NB371_372.out _; (with_reducible repeat (first | refine blk_drewN ?_ _ | refine blk_drew ?_ | refine blk_alloc ?_ _)); refine blk_far ?_ NB371_372.out _; (with_reducible repeat (first | refine blk_drewN ?_ _ | refine blk_drew ?_ | refine blk_alloc ?_ _)); refine blk_far ?_ NB371_372.out _; (with_reducible repeat (first | refine blk_drewN ?_ _ | refine blk_drew ?_ | refine blk_alloc ?_ _)); refine blk_far ?_ NB371_372.out _; (with_reducible repeat (first | refine blk_drewN ?_ _ | refine blk_drew ?_ | refine blk_alloc ?_ _)); refine blk_put (cs := #[.int .i64 t359, .string t360, .int .i64 t361, .slice none 0 0]) ?_ 3 _ rfl; (with_reducible repeat (first | refine blk_drewN ?_ _ | refine blk_drew ?_ | refine blk_alloc ?_ _)); refine blk_put (cs := #[.int .i64 t359, .string t360, .int .i64 0, .slice none 0 0]) ?_ 2 _ rfl; (with_reducible repeat (first | refine blk_drewN ?_ _ | refine blk_drew ?_ | refine blk_alloc ?_ _)); refine blk_put (cs := #[.int .i64 t359, .string (⟨#[]⟩ : ByteArray), .int .i64 0, .slice none 0 0]) ?_ 1 _ rfl; (with_reducible repeat (first | refine blk_drewN ?_ _ | refine blk_drew ?_ | refine blk_alloc ?_ _)); refine blk_put (cs := #[.int .i64 0, .string (⟨#[]⟩ : ByteArray), .int .i64 0, .slice none 0 0]) ?_ 0 _ rfl; (with_reducible repeat (first | refine blk_drewN ?_ _ | refine blk_drew ?_ | refine blk_alloc ?_ _)); exact BK371.out) hb); replace BK372 := Aside0.mk (blk_below (g := gb372) (o := .cells #[.int .i64 t365, .string t366, .int .i64 t367, .slice Ao69 t368.length co69] 29 (0, 0)) (by (with_reducible repeat (first | refine blk_drewN ?_ _ | refine blk_drew ?_ | refine blk_alloc ?_ _)); refine blk_put (cs := #[.int .i64 t365, .string t366, .int .i64 t367, .slice none 0 0]) ?_ 3 _ rfl; (with_reducible repeat (first | refine blk_drewN ?_ _ | refine blk_drew ?_ | refine blk_alloc ?_ _)); refine blk_put (cs := #[.int .i64 t365, .string t366, .int .i64 0, .slice none 0 0]) ?_ 2 _ rfl; (with_reducible repeat (first | refine blk_drewN ?_ _ | refine blk_drew ?_ | refine blk_alloc ?_ _)); refine blk_put (cs := #[.int .i64 t365, .string (⟨#[]⟩ : ByteArray), .int .i64 0, .slice none 0 0]) ?_ 1 _ rfl; (with_reducible repeat (first | refine blk_drewN ?_ _ | refine blk_drew ?_ | refine blk_alloc ?_ _)); refine blk_put (cs := #[.int .i64 0, .string (⟨#[]⟩ : ByteArray), .int .i64 0, .slice none 0 0]) ?_ 0 _ rfl; (with_reducible repeat (first | refine blk_drewN ?_ _ | refine blk_drew ?_ | refine blk_alloc ?_ _)); refine blk_far ?_ NB372_371.out _; (with_reducible repeat (first | refine blk_drewN ?_ _ | refine blk_drew ?_ | refine blk_alloc ?_ _)); refine blk_far ?_ NB372_371.out _; (with_reducible repeat (first | refine blk_drewN ?_ _ | refine blk_drew ?_ | refine blk_alloc ?_ _)); refine blk_far ?_ NB372_371.out _; (with_reducible repeat (first | refine blk_drewN ?_ _ | refine blk_drew ?_ | refine blk_alloc ?_ _)); refine blk_far ?_ NB372_371.out _; (with_reducible repeat (first | refine blk_drewN ?_ _ | refine blk_drew ?_ | refine blk_alloc ?_ _)); exact BK372.out) hb); replace HB := Aside0.mk (below_step (B3_ HB.out GE352.out GE371.out GE372.out) hb); (try clear hb); (try clear hb2); (try clear hk); (try clear hi)))
         replace HO_353003 := Aside0.mk (Kd.N_drew HO_353003.out)
         replace HO364 := Aside0.mk (Kd.N_drew HO364.out)
         replace HO370 := Aside0.mk (Kd.N_drew HO370.out)
         replace BK352 := Aside0.mk (blk_drew BK352.out)
         replace BK371 := Aside0.mk (blk_drew BK371.out)
         replace BK372 := Aside0.mk (blk_drew BK372.out)
         replace HB := Aside0.mk (below_drew1 HB.out)
         refine start_ (n := 35) (S := fun w' => w'.cell? ⟨gb352, 0, none⟩ = some (.int .i64 t346) ∧ w'.cell? ⟨gb352, 1, none⟩ = some (.string t347) ∧ w'.cell? ⟨gb352, 2, none⟩ = some (.int .i64 t348) ∧ w'.cell? ⟨gb352, 3, none⟩ = some (.slice Ao9 t349.length co9) ∧ w'.cell? ⟨gb371, 0, none⟩ = some (.int .i64 t359) ∧ w'.cell? ⟨gb371, 1, none⟩ = some (.string t360) ∧ w'.cell? ⟨gb371, 2, none⟩ = some (.int .i64 t361) ∧ w'.cell? ⟨gb371, 3, none⟩ = some (.slice Ao66 t362.length co66) ∧ w'.cell? ⟨gb372, 0, none⟩ = some (.int .i64 t365) ∧ w'.cell? ⟨gb372, 1, none⟩ = some (.string t366) ∧ w'.cell? ⟨gb372, 2, none⟩ = some (.int .i64 t367) ∧ w'.cell? ⟨gb372, 3, none⟩ = some (.slice Ao69 t368.length co69)) (ds := []) #[false, false, false, false, false, false, false, false, false, false, false, false, false, false, false, false, false, false, false, false, false, false, false, false, false, false, false, false, false, false, false, false, false, false, false] (by kernel_rfl) rfl rfl ⟨(blk_cell BK352.out 0).trans rfl, (blk_cell BK352.out 1).trans rfl, (blk_cell BK352.out 2).trans rfl, (blk_cell BK352.out 3).trans rfl, (blk_cell BK371.out 0).trans rfl, (blk_cell BK371.out 1).trans rfl, (blk_cell BK371.out 2).trans rfl, (blk_cell BK371.out 3).trans rfl, (blk_cell BK372.out 0).trans rfl, (blk_cell BK372.out 1).trans rfl, (blk_cell BK372.out 2).trans rfl, (blk_cell BK372.out 3).trans rfl⟩ (fun hHeld => ?_); refine with_tabW laws_FnOptics.tab14 laws_FnOptics.bits14 (fun HT_ HW_ => ?_)
         generalize w70.drew = w71 at HO_353003 HO364 HO370 BK352 BK371 BK372 HB hHeld ⊢
         refine pure_ (i := 2) (N := some 52) (v := ?_) (a' := ?_) #[false, false, true, false, false, false, false, false, false, false, false, false, false, false, false, false, false, false, false, false, false, false, false, false, false, false, false, false, false, false, false, false, false, false, false] rfl rfl (any_of HT_.out (by kernel_rfl)) (fun _ _ _ h => h) (Or.inl ⟨by rfl, ?_⟩) ?_ ?_
         rotate_left
         ·intro w'
          go_simp
          with_reducible rfl
         rotate_left
         ·simp only [Act.put, List.setIfInBounds_toArray, List.set_cons_zero, List.set_cons_succ, i64_w, i32_w]
          rfl
         refine take_ (i := 0) (N := some 50) (v := ?_) (a' := ?_) #[true, false, true, false, false, false, false, false, false, false, false, false, false, false, false, false, false, false, false, false, false, false, false, false, false, false, false, false, false, false, false, false, false, false, false] rfl rfl (take_ofW HT_.out HW_.out (by kernel_rfl)) (fun _ _ _ h => h) (Or.inl ⟨by rfl, ?_⟩) hHeld ?_ ?_
         rotate_left
         ·rintro w' ⟨s0, s1, s2, s3, s4, s5, s6, s7, s8, s9, s10, s11⟩
          go_simp
          with_reducible rfl
         rotate_left
         ·simp only [Act.put, List.setIfInBounds_toArray, List.set_cons_zero, List.set_cons_succ, i64_w, i32_w]
          rfl
         refine one_ (i := 1) (N := some 51) #[true, true, true, false, false, false, false, false, false, false, false, false, false, false, false, false, false, false, false, false, false, false, false, false, false, false, false, false, false, false, false, false, false, false, false] rfl rfl (one_of HT_.out (by kernel_rfl)) (by decide) (fun K hK => ?_)
         refine goes_ Try.func16 (by kernel_rfl) rfl #[.agg #[.int .i64 t346, .string t347, .int .i64 t348, .slice Ao9 t349.length co9]] (by rfl) rfl rfl ma_ ?_
         with_reducible refine (impl_SizeOf.calls k1 t346 t347 t348 _ _ t349 t374 _ ?side1 ?side2 A28.out).mono ?_
         (case side1 => exact C_ (Kd.N_reads' HO_353003.out).2.2)
         (case side2 => exact (Kd.N_reads' HO_353003.out).2.1)
         rintro e w72 ⟨rfl, hb⟩
         refine ⟨_, rfl, ?_⟩
         replace HO_353003 := Aside0.mk (Kd.N_below (N_ HO_353003.out) hb)
         replace HO364 := Aside0.mk (Kd.N_below (N_ HO364.out) hb)
         replace HO370 := Aside0.mk (Kd.N_below (N_ HO370.out) hb)
         replace BK352 := Aside0.mk (blk_below (K_ BK352.out) hb)
         replace BK371 := Aside0.mk (blk_below (K_ BK371.out) hb)
         replace BK372 := Aside0.mk (blk_below (K_ BK372.out) hb)
         replace HB := Aside0.mk (below_step (B3_ HB.out GE352.out GE371.out GE372.out) hb)
         (try clear hb)
         (try clear hb2)
         (try clear hk)
         (try clear hi)
         refine hK.out _ _ ⟨(blk_cell BK352.out 0).trans rfl, (blk_cell BK352.out 1).trans rfl, (blk_cell BK352.out 2).trans rfl, (blk_cell BK352.out 3).trans rfl, (blk_cell BK371.out 0).trans rfl, (blk_cell BK371.out 1).trans rfl, (blk_cell BK371.out 2).trans rfl, (blk_cell BK371.out 3).trans rfl, (blk_cell BK372.out 0).trans rfl, (blk_cell BK372.out 1).trans rfl, (blk_cell BK372.out 2).trans rfl, (blk_cell BK372.out 3).trans rfl⟩ (fun hHeld => ?_)
         clear hK K
         refine norm_ (a' := ?_) ?_ ?_
         rotate_left
         ·show Act.put _ (some 51) _ = _
          simp only [Act.put, List.setIfInBounds_toArray, List.set_cons_zero, List.set_cons_succ, i64_w, i32_w]
          rfl
         refine pure_ (i := 3) (N := some 53) (v := ?_) (a' := ?_) #[true, true, true, true, false, false, false, false, false, false, false, false, false, false, false, false, false, false, false, false, false, false, false, false, false, false, false, false, false, false, false, false, false, false, false] rfl rfl (any_of HT_.out (by kernel_rfl)) (fun _ _ _ h => h) (Or.inl ⟨by rfl, ?_⟩) ?_ ?_
         rotate_left
         ·intro w'
          go_simp
          with_reducible rfl
         rotate_left
         ·simp only [Act.put, List.setIfInBounds_toArray, List.set_cons_zero, List.set_cons_succ, i64_w, i32_w]
          rfl
         refine pure_ (i := 4) (N := some 54) (v := ?_) (a' := ?_) #[true, true, true, true, true, false, false, false, false, false, false, false, false, false, false, false, false, false, false, false, false, false, false, false, false, false, false, false, false, false, false, false, false, false, false] rfl rfl (any_of HT_.out (by kernel_rfl)) (fun _ _ _ h => h) (Or.inl ⟨by rfl, ?_⟩) ?_ ?_
         rotate_left
         ·intro w'
          go_simp
          with_reducible rfl
         rotate_left
         ·simp only [Act.put, List.setIfInBounds_toArray, List.set_cons_zero, List.set_cons_succ, i64_w, i32_w]
          rfl
         refine pure_ (i := 7) (N := some 57) (v := ?_) (a' := ?_) #[true, true, true, true, true, false, false, true, false, false, false, false, false, false, false, false, false, false, false, false, false, false, false, false, false, false, false, false, false, false, false, false, false, false, false] rfl rfl (any_of HT_.out (by kernel_rfl)) (fun _ _ _ h => h) (Or.inl ⟨by rfl, ?_⟩) ?_ ?_
         rotate_left
         ·intro w'
          go_simp
          with_reducible rfl
         rotate_left
         ·simp only [Act.put, List.setIfInBounds_toArray, List.set_cons_zero, List.set_cons_succ, i64_w, i32_w]
          rfl
         refine pure_ (i := 8) (N := some 58) (v := ?_) (a' := ?_) #[true, true, true, true, true, false, false, true, true, false, false, false, false, false, false, false, false, false, false, false, false, false, false, false, false, false, false, false, false, false, false, false, false, false, false] rfl rfl (any_of HT_.out (by kernel_rfl)) (fun _ _ _ h => h) (Or.inl ⟨by rfl, ?_⟩) ?_ ?_
         rotate_left
         ·intro w'
          go_simp
          with_reducible rfl
         rotate_left
         ·simp only [Act.put, List.setIfInBounds_toArray, List.set_cons_zero, List.set_cons_succ, i64_w, i32_w]
          rfl
         refine take_ (i := 5) (N := some 55) (v := ?_) (a' := ?_) #[true, true, true, true, true, true, false, true, true, false, false, false, false, false, false, false, false, false, false, false, false, false, false, false, false, false, false, false, false, false, false, false, false, false, false] rfl rfl (take_ofW HT_.out HW_.out (by kernel_rfl)) (fun _ _ _ h => h) (Or.inl ⟨by rfl, ?_⟩) hHeld ?_ ?_
         rotate_left
         ·rintro w' ⟨s0, s1, s2, s3, s4, s5, s6, s7, s8, s9, s10, s11⟩
          go_simp
          with_reducible rfl
         rotate_left
         ·simp only [Act.put, List.setIfInBounds_toArray, List.set_cons_zero, List.set_cons_succ, i64_w, i32_w]
          rfl
         refine one_ (i := 6) (N := some 56) #[true, true, true, true, true, true, true, true, true, false, false, false, false, false, false, false, false, false, false, false, false, false, false, false, false, false, false, false, false, false, false, false, false, false, false] rfl rfl (one_of HT_.out (by kernel_rfl)) (by decide) (fun K hK => ?_)
         refine goes_ Try.func19 (by kernel_rfl) rfl #[.agg #[.int .i64 t346, .string t347, .int .i64 t348, .slice Ao9 t349.length co9]] (by rfl) rfl rfl ma_ ?_
         with_reducible refine (impl_DepthOf.calls k1 t346 t347 t348 _ _ t349 t375 _ ?side1 ?side2 A30.out).mono ?_
         (case side1 => exact C_ (Kd.N_reads' HO_353003.out).2.2)
         (case side2 => exact (Kd.N_reads' HO_353003.out).2.1)
         rintro e w73 ⟨rfl, hb⟩
         refine ⟨_, rfl, ?_⟩
         replace HO_353003 := Aside0.mk (Kd.N_below (N_ HO_353003.out) hb)
         replace HO364 := Aside0.mk (Kd.N_below (N_ HO364.out) hb)
         replace HO370 := Aside0.mk (Kd.N_below (N_ HO370.out) hb)
         replace BK352 := Aside0.mk (blk_below (K_ BK352.out) hb)
         replace BK371 := Aside0.mk (blk_below (K_ BK371.out) hb)
         replace BK372 := Aside0.mk (blk_below (K_ BK372.out) hb)
         replace HB := Aside0.mk (below_step (B3_ HB.out GE352.out GE371.out GE372.out) hb)
         (try clear hb)
         (try clear hb2)
         (try clear hk)
         (try clear hi)
         refine hK.out _ _ ⟨(blk_cell BK352.out 0).trans rfl, (blk_cell BK352.out 1).trans rfl, (blk_cell BK352.out 2).trans rfl, (blk_cell BK352.out 3).trans rfl, (blk_cell BK371.out 0).trans rfl, (blk_cell BK371.out 1).trans rfl, (blk_cell BK371.out 2).trans rfl, (blk_cell BK371.out 3).trans rfl, (blk_cell BK372.out 0).trans rfl, (blk_cell BK372.out 1).trans rfl, (blk_cell BK372.out 2).trans rfl, (blk_cell BK372.out 3).trans rfl⟩ (fun hHeld => ?_)
         clear hK K
         refine norm_ (a' := ?_) ?_ ?_
         rotate_left
         ·show Act.put _ (some 56) _ = _
          simp only [Act.put, List.setIfInBounds_toArray, List.set_cons_zero, List.set_cons_succ, i64_w, i32_w]
          rfl
         refine pure_ (i := 9) (N := some 59) (v := ?_) (a' := ?_) #[true, true, true, true, true, true, true, true, true, true, false, false, false, false, false, false, false, false, false, false, false, false, false, false, false, false, false, false, false, false, false, false, false, false, false] rfl rfl (any_of HT_.out (by kernel_rfl)) (fun _ _ _ h => h) (Or.inl ⟨by rfl, ?_⟩) ?_ ?_
         rotate_left
         ·intro w'
          go_simp
          with_reducible rfl
         rotate_left
         ·simp only [Act.put, List.setIfInBounds_toArray, List.set_cons_zero, List.set_cons_succ, i64_w, i32_w]
          rfl
         refine pure_ (i := 10) (N := some 60) (v := ?_) (a' := ?_) #[true, true, true, true, true, true, true, true, true, true, true, false, false, false, false, false, false, false, false, false, false, false, false, false, false, false, false, false, false, false, false, false, false, false, false] rfl rfl (any_of HT_.out (by kernel_rfl)) (fun _ _ _ h => h) (Or.inl ⟨by rfl, ?_⟩) ?_ ?_
         rotate_left
         ·intro w'
          go_simp
          with_reducible rfl
         rotate_left
         ·simp only [Act.put, List.setIfInBounds_toArray, List.set_cons_zero, List.set_cons_succ, i64_w, i32_w]
          rfl
         refine pure_ (i := 11) (N := some 61) (v := ?_) (a' := ?_) #[true, true, true, true, true, true, true, true, true, true, true, true, false, false, false, false, false, false, false, false, false, false, false, false, false, false, false, false, false, false, false, false, false, false, false] rfl rfl (any_of HT_.out (by kernel_rfl)) (fun _ _ _ h => h) (Or.inl ⟨by rfl, ?_⟩) ?_ ?_
         rotate_left
         ·intro w'
          go_simp
          with_reducible rfl
         rotate_left
         ·simp only [Act.put, List.setIfInBounds_toArray, List.set_cons_zero, List.set_cons_succ, i64_w, i32_w]
          rfl
         refine take_ (i := 12) (N := some 62) (v := ?_) (a' := ?_) #[true, true, true, true, true, true, true, true, true, true, true, true, true, false, false, false, false, false, false, false, false, false, false, false, false, false, false, false, false, false, false, false, false, false, false] rfl rfl (take_ofW HT_.out HW_.out (by kernel_rfl)) (fun _ _ _ h => h) (Or.inl ⟨by rfl, ?_⟩) hHeld ?_ ?_
         rotate_left
         ·rintro w' ⟨s0, s1, s2, s3, s4, s5, s6, s7, s8, s9, s10, s11⟩
          go_simp
          with_reducible rfl
         rotate_left
         ·simp only [Act.put, List.setIfInBounds_toArray, List.set_cons_zero, List.set_cons_succ, i64_w, i32_w]
          rfl
         refine take_ (i := 14) (N := some 64) (v := ?_) (a' := ?_) #[true, true, true, true, true, true, true, true, true, true, true, true, true, false, true, false, false, false, false, false, false, false, false, false, false, false, false, false, false, false, false, false, false, false, false] rfl rfl (take_ofW HT_.out HW_.out (by kernel_rfl)) (fun _ _ _ h => h) (Or.inl ⟨by rfl, ?_⟩) hHeld ?_ ?_
         rotate_left
         ·rintro w' ⟨s0, s1, s2, s3, s4, s5, s6, s7, s8, s9, s10, s11⟩
          go_simp
          with_reducible rfl
         rotate_left
         ·simp only [Act.put, List.setIfInBounds_toArray, List.set_cons_zero, List.set_cons_succ, i64_w, i32_w]
          rfl
         refine one_ (i := 13) (N := some 63) #[true, true, true, true, true, true, true, true, true, true, true, true, true, true, true, false, false, false, false, false, false, false, false, false, false, false, false, false, false, false, false, false, false, false, false] rfl rfl (one_of HT_.out (by kernel_rfl)) (by decide) (fun K hK => ?_)
         refine goes_ Try.func23 (by kernel_rfl) rfl #[.agg #[.int .i64 t346, .string t347, .int .i64 t348, .slice Ao9 t349.length co9]] (by rfl) rfl rfl ma_ ?_
         with_reducible refine (impl_IsOptic.calls k1 t346 t347 t348 _ _ t349 t376 _ ?side1 ?side2 A32.out).mono ?_
         (case side1 => exact C_ (Kd.N_reads' HO_353003.out).2.2)
         (case side2 => exact (Kd.N_reads' HO_353003.out).2.1)
         rintro e w74 ⟨rfl, hb⟩
         refine ⟨_, rfl, ?_⟩
         replace HO_353003 := Aside0.mk (Kd.N_below (N_ HO_353003.out) hb)
         replace HO364 := Aside0.mk (Kd.N_below (N_ HO364.out) hb)
         replace HO370 := Aside0.mk (Kd.N_below (N_ HO370.out) hb)
         replace BK352 := Aside0.mk (blk_below (K_ BK352.out) hb)
         replace BK371 := Aside0.mk (blk_below (K_ BK371.out) hb)
         replace BK372 := Aside0.mk (blk_below (K_ BK372.out) hb)
         replace HB := Aside0.mk (below_step (B3_ HB.out GE352.out GE371.out GE372.out) hb)
         (try clear hb)
         (try clear hb2)
         (try clear hk)
         (try clear hi)
         refine hK.out _ _ ⟨(blk_cell BK352.out 0).trans rfl, (blk_cell BK352.out 1).trans rfl, (blk_cell BK352.out 2).trans rfl, (blk_cell BK352.out 3).trans rfl, (blk_cell BK371.out 0).trans rfl, (blk_cell BK371.out 1).trans rfl, (blk_cell BK371.out 2).trans rfl, (blk_cell BK371.out 3).trans rfl, (blk_cell BK372.out 0).trans rfl, (blk_cell BK372.out 1).trans rfl, (blk_cell BK372.out 2).trans rfl, (blk_cell BK372.out 3).trans rfl⟩ (fun hHeld => ?_)
         clear hK K
         refine norm_ (a' := ?_) ?_ ?_
         rotate_left
         ·show Act.put _ (some 63) _ = _
          simp only [Act.put, List.setIfInBounds_toArray, List.set_cons_zero, List.set_cons_succ, i64_w, i32_w]
          rfl
         refine one_ (i := 15) (N := some 65) #[true, true, true, true, true, true, true, true, true, true, true, true, true, true, true, true, false, false, false, false, false, false, false, false, false, false, false, false, false, false, false, false, false, false, false] rfl rfl (one_of HT_.out (by kernel_rfl)) (by decide) (fun K hK => ?_)
         refine goes_ Try.func22 (by kernel_rfl) rfl #[.agg #[.int .i64 t346, .string t347, .int .i64 t348, .slice Ao9 t349.length co9]] (by rfl) rfl rfl ma_ ?_
         with_reducible refine (spec_IsOptic.calls k1 t346 t347 t348 _ _ t349 t377 _ ?side1 ?side2 A33.out).mono ?_
         (case side1 => exact C_ (Kd.N_reads' HO_353003.out).2.2)
         (case side2 => exact (Kd.N_reads' HO_353003.out).2.1)
         rintro e w75 ⟨rfl, hb⟩
         refine ⟨_, rfl, ?_⟩
         replace HO_353003 := Aside0.mk (Kd.N_below (N_ HO_353003.out) hb)
         replace HO364 := Aside0.mk (Kd.N_below (N_ HO364.out) hb)
         replace HO370 := Aside0.mk (Kd.N_below (N_ HO370.out) hb)
         replace BK352 := Aside0.mk (blk_below (K_ BK352.out) hb)
         replace BK371 := Aside0.mk (blk_below (K_ BK371.out) hb)
         replace BK372 := Aside0.mk (blk_below (K_ BK372.out) hb)
         replace HB := Aside0.mk (below_step (B3_ HB.out GE352.out GE371.out GE372.out) hb)
         (try clear hb)
         (try clear hb2)
         (try clear hk)
         (try clear hi)
         refine hK.out _ _ ⟨(blk_cell BK352.out 0).trans rfl, (blk_cell BK352.out 1).trans rfl, (blk_cell BK352.out 2).trans rfl, (blk_cell BK352.out 3).trans rfl, (blk_cell BK371.out 0).trans rfl, (blk_cell BK371.out 1).trans rfl, (blk_cell BK371.out 2).trans rfl, (blk_cell BK371.out 3).trans rfl, (blk_cell BK372.out 0).trans rfl, (blk_cell BK372.out 1).trans rfl, (blk_cell BK372.out 2).trans rfl, (blk_cell BK372.out 3).trans rfl⟩ (fun hHeld => ?_)
         clear hK K
         refine norm_ (a' := ?_) ?_ ?_
         rotate_left
         ·show Act.put _ (some 65) _ = _
          simp only [Act.put, List.setIfInBounds_toArray, List.set_cons_zero, List.set_cons_succ, i64_w, i32_w]
          rfl
         refine pure_ (i := 16) (N := some 66) (v := ?_) (a' := ?_) #[true, true, true, true, true, true, true, true, true, true, true, true, true, true, true, true, true, false, false, false, false, false, false, false, false, false, false, false, false, false, false, false, false, false, false] rfl rfl (any_of HT_.out (by kernel_rfl)) (fun _ _ _ h => h) (Or.inl ⟨by rfl, ?_⟩) ?_ ?_
         rotate_left
         ·intro w'
          go_simp
          with_reducible rfl
         rotate_left
         ·simp only [Act.put, List.setIfInBounds_toArray, List.set_cons_zero, List.set_cons_succ, i64_w, i32_w]
          rfl
         refine pure_ (i := 17) (N := some 67) (v := ?_) (a' := ?_) #[true, true, true, true, true, true, true, true, true, true, true, true, true, true, true, true, true, true, false, false, false, false, false, false, false, false, false, false, false, false, false, false, false, false, false] rfl rfl (any_of HT_.out (by kernel_rfl)) (fun _ _ _ h => h) (Or.inl ⟨by rfl, ?_⟩) ?_ ?_
         rotate_left
         ·intro w'
          go_simp
          with_reducible rfl
         rotate_left
         ·simp only [Act.put, List.setIfInBounds_toArray, List.set_cons_zero, List.set_cons_succ, i64_w, i32_w]
          rfl
         refine pure_ (i := 18) (N := some 68) (v := ?_) (a' := ?_) #[true, true, true, true, true, true, true, true, true, true, true, true, true, true, true, true, true, true, true, false, false, false, false, false, false, false, false, false, false, false, false, false, false, false, false] rfl rfl (any_of HT_.out (by kernel_rfl)) (fun _ _ _ h => h) (Or.inl ⟨by rfl, ?_⟩) ?_ ?_
         rotate_left
         ·intro w'
          go_simp
          with_reducible rfl
         rotate_left
         ·simp only [Act.put, List.setIfInBounds_toArray, List.set_cons_zero, List.set_cons_succ, i64_w, i32_w]
          rfl
         refine take_ (i := 19) (N := some 69) (v := ?_) (a' := ?_) #[true, true, true, true, true, true, true, true, true, true, true, true, true, true, true, true, true, true, true, true, false, false, false, false, false, false, false, false, false, false, false, false, false, false, false] rfl rfl (take_ofW HT_.out HW_.out (by kernel_rfl)) (fun _ _ _ h => h) (Or.inl ⟨by rfl, ?_⟩) hHeld ?_ ?_
         rotate_left
         ·rintro w' ⟨s0, s1, s2, s3, s4, s5, s6, s7, s8, s9, s10, s11⟩
          go_simp
          with_reducible rfl
         rotate_left
         ·simp only [Act.put, List.setIfInBounds_toArray, List.set_cons_zero, List.set_cons_succ, i64_w, i32_w]
          rfl
         refine take_ (i := 20) (N := some 70) (v := ?_) (a' := ?_) #[true, true, true, true, true, true, true, true, true, true, true, true, true, true, true, true, true, true, true, true, true, false, false, false, false, false, false, false, false, false, false, false, false, false, false] rfl rfl (take_ofW HT_.out HW_.out (by kernel_rfl)) (fun _ _ _ h => h) (Or.inl ⟨by rfl, ?_⟩) hHeld ?_ ?_
         rotate_left
         ·rintro w' ⟨s0, s1, s2, s3, s4, s5, s6, s7, s8, s9, s10, s11⟩
          go_simp
          with_reducible rfl
         rotate_left
         ·simp only [Act.put, List.setIfInBounds_toArray, List.set_cons_zero, List.set_cons_succ, i64_w, i32_w]
          rfl
         refine take_ (i := 22) (N := some 72) (v := ?_) (a' := ?_) #[true, true, true, true, true, true, true, true, true, true, true, true, true, true, true, true, true, true, true, true, true, false, true, false, false, false, false, false, false, false, false, false, false, false, false] rfl rfl (take_ofW HT_.out HW_.out (by kernel_rfl)) (fun _ _ _ h => h) (Or.inl ⟨by rfl, ?_⟩) hHeld ?_ ?_
         rotate_left
         ·rintro w' ⟨s0, s1, s2, s3, s4, s5, s6, s7, s8, s9, s10, s11⟩
          go_simp
          with_reducible rfl
         rotate_left
         ·simp only [Act.put, List.setIfInBounds_toArray, List.set_cons_zero, List.set_cons_succ, i64_w, i32_w]
          rfl
         refine take_ (i := 23) (N := some 73) (v := ?_) (a' := ?_) #[true, true, true, true, true, true, true, true, true, true, true, true, true, true, true, true, true, true, true, true, true, false, true, true, false, false, false, false, false, false, false, false, false, false, false] rfl rfl (take_ofW HT_.out HW_.out (by kernel_rfl)) (fun _ _ _ h => h) (Or.inl ⟨by rfl, ?_⟩) hHeld ?_ ?_
         rotate_left
         ·rintro w' ⟨s0, s1, s2, s3, s4, s5, s6, s7, s8, s9, s10, s11⟩
          go_simp
          with_reducible rfl
         rotate_left
         ·simp only [Act.put, List.setIfInBounds_toArray, List.set_cons_zero, List.set_cons_succ, i64_w, i32_w]
          rfl
         refine one_ (i := 21) (N := some 71) #[true, true, true, true, true, true, true, true, true, true, true, true, true, true, true, true, true, true, true, true, true, true, true, true, false, false, false, false, false, false, false, false, false, false, false] rfl rfl (one_of HT_.out (by kernel_rfl)) (by decide) (fun K hK => ?_)
         refine goes_ Try.func21 (by kernel_rfl) rfl #[.agg #[.int .i64 t359, .string t360, .int .i64 t361, .slice Ao66 t362.length co66], .agg #[.int .i64 t365, .string t366, .int .i64 t367, .slice Ao69 t368.length co69]] (by rfl) rfl rfl ma_ ?_
         with_reducible refine (impl_EqualOptic.calls k1 t359 t360 t361 _ _ t362 t365 t366 t367 _ _ t368 t378 _ ?side1 ?side2 ?side3 ?side4 A35.out).mono ?_
         (case side1 => exact C_ (Kd.N_reads' HO364.out).2.2)
         (case side2 => exact (Kd.N_reads' HO364.out).2.1)
         (case side3 => exact C_ (Kd.N_reads' HO370.out).2.2)
         (case side4 => exact (Kd.N_reads' HO370.out).2.1)
         rintro e w76 ⟨rfl, hb⟩
         refine ⟨_, rfl, ?_⟩
         replace HO_353003 := Aside0.mk (Kd.N_below (N_ HO_353003.out) hb)
         replace HO364 := Aside0.mk (Kd.N_below (N_ HO364.out) hb)
         replace HO370 := Aside0.mk (Kd.N_below (N_ HO370.out) hb)
         replace BK352 := Aside0.mk (blk_below (K_ BK352.out) hb)
         replace BK371 := Aside0.mk (blk_below (K_ BK371.out) hb)
         replace BK372 := Aside0.mk (blk_below (K_ BK372.out) hb)
         replace HB := Aside0.mk (below_step (B3_ HB.out GE352.out GE371.out GE372.out) hb)
         (try clear hb)
         (try clear hb2)
         (try clear hk)
         (try clear hi)
         refine hK.out _ _ ⟨(blk_cell BK352.out 0).trans rfl, (blk_cell BK352.out 1).trans rfl, (blk_cell BK352.out 2).trans rfl, (blk_cell BK352.out 3).trans rfl, (blk_cell BK371.out 0).trans rfl, (blk_cell BK371.out 1).trans rfl, (blk_cell BK371.out 2).trans rfl, (blk_cell BK371.out 3).trans rfl, (blk_cell BK372.out 0).trans rfl, (blk_cell BK372.out 1).trans rfl, (blk_cell BK372.out 2).trans rfl, (blk_cell BK372.out 3).trans rfl⟩ (fun hHeld => ?_)
         clear hK K
         refine norm_ (a' := ?_) ?_ ?_
         rotate_left
         ·show Act.put _ (some 71) _ = _
          simp only [Act.put, List.setIfInBounds_toArray, List.set_cons_zero, List.set_cons_succ, i64_w, i32_w]
          rfl
         refine one_ (i := 24) (N := some 74) #[true, true, true, true, true, true, true, true, true, true, true, true, true, true, true, true, true, true, true, true, true, true, true, true, true, false, false, false, false, false, false, false, false, false, false] rfl rfl (one_of HT_.out (by kernel_rfl)) (by decide) (fun K hK => ?_)
         refine goes_ Try.func20 (by kernel_rfl) rfl #[.agg #[.int .i64 t359, .string t360, .int .i64 t361, .slice Ao66 t362.length co66], .agg #[.int .i64 t365, .string t366, .int .i64 t367, .slice Ao69 t368.length co69]] (by rfl) rfl rfl ma_ ?_
         with_reducible refine (spec_EqualOptic.calls k1 t359 t360 t361 _ _ t362 t365 t366 t367 _ _ t368 t379 _ ?side1 ?side2 ?side3 ?side4 A36.out).mono ?_
         (case side1 => exact C_ (Kd.N_reads' HO364.out).2.2)
         (case side2 => exact (Kd.N_reads' HO364.out).2.1)
         (case side3 => exact C_ (Kd.N_reads' HO370.out).2.2)
         (case side4 => exact (Kd.N_reads' HO370.out).2.1)
         rintro e w77 ⟨rfl, hb⟩
         refine ⟨_, rfl, ?_⟩
         replace HO_353003 := Aside0.mk (Kd.N_below (N_ HO_353003.out) hb)
         replace HO364 := Aside0.mk (Kd.N_below (N_ HO364.out) hb)
         replace HO370 := Aside0.mk (Kd.N_below (N_ HO370.out) hb)
         replace BK352 := Aside0.mk (blk_below (K_ BK352.out) hb)
         replace BK371 := Aside0.mk (blk_below (K_ BK371.out) hb)
         replace BK372 := Aside0.mk (blk_below (K_ BK372.out) hb)
         replace HB := Aside0.mk (below_step (B3_ HB.out GE352.out GE371.out GE372.out) hb)
         (try clear hb)
         (try clear hb2)
         (try clear hk)
         (try clear hi)
         refine hK.out _ _ ⟨(blk_cell BK352.out 0).trans rfl, (blk_cell BK352.out 1).trans rfl, (blk_cell BK352.out 2).trans rfl, (blk_cell BK352.out 3).trans rfl, (blk_cell BK371.out 0).trans rfl, (blk_cell BK371.out 1).trans rfl, (blk_cell BK371.out 2).trans rfl, (blk_cell BK371.out 3).trans rfl, (blk_cell BK372.out 0).trans rfl, (blk_cell BK372.out 1).trans rfl, (blk_cell BK372.out 2).trans rfl, (blk_cell BK372.out 3).trans rfl⟩ (fun hHeld => ?_)
         clear hK K
         refine norm_ (a' := ?_) ?_ ?_
         rotate_left
         ·show Act.put _ (some 74) _ = _
          simp only [Act.put, List.setIfInBounds_toArray, List.set_cons_zero, List.set_cons_succ, i64_w, i32_w]
          rfl
         refine pure_ (i := 25) (N := some 75) (v := ?_) (a' := ?_) #[true, true, true, true, true, true, true, true, true, true, true, true, true, true, true, true, true, true, true, true, true, true, true, true, true, true, false, false, false, false, false, false, false, false, false] rfl rfl (any_of HT_.out (by kernel_rfl)) (fun _ _ _ h => h) (Or.inl ⟨by rfl, ?_⟩) ?_ ?_
         rotate_left
         ·intro w'
          go_simp
          with_reducible rfl
         rotate_left
         ·simp only [Act.put, List.setIfInBounds_toArray, List.set_cons_zero, List.set_cons_succ, i64_w, i32_w]
          rfl
         refine pure_ (i := 26) (N := some 76) (v := ?_) (a' := ?_) #[true, true, true, true, true, true, true, true, true, true, true, true, true, true, true, true, true, true, true, true, true, true, true, true, true, true, true, false, false, false, false, false, false, false, false] rfl rfl (any_of HT_.out (by kernel_rfl)) (fun _ _ _ h => h) (Or.inl ⟨by rfl, ?_⟩) ?_ ?_
         rotate_left
         ·intro w'
          go_simp
          with_reducible rfl
         rotate_left
         ·simp only [Act.put, List.setIfInBounds_toArray, List.set_cons_zero, List.set_cons_succ, i64_w, i32_w]
          rfl
         refine pure_ (i := 27) (N := some 77) (v := ?_) (a' := ?_) #[true, true, true, true, true, true, true, true, true, true, true, true, true, true, true, true, true, true, true, true, true, true, true, true, true, true, true, true, false, false, false, false, false, false, false] rfl rfl (any_of HT_.out (by kernel_rfl)) (fun _ _ _ h => h) (Or.inl ⟨by rfl, ?_⟩) ?_ ?_
         rotate_left
         ·intro w'
          go_simp
          with_reducible rfl
         rotate_left
         ·simp only [Act.put, List.setIfInBounds_toArray, List.set_cons_zero, List.set_cons_succ, i64_w, i32_w]
          rfl
         refine pure_ (i := 28) (N := some 78) (v := undef) (a' := ?_) #[true, true, true, true, true, true, true, true, true, true, true, true, true, true, true, true, true, true, true, true, true, true, true, true, true, true, true, true, true, false, false, false, false, false, false] rfl rfl (any_of HT_.out (by kernel_rfl)) (fun _ _ _ h => h) (Or.inr ⟨by rfl, rfl⟩) ?_ ?_
         rotate_left
         ·simp only [Act.put, List.setIfInBounds_toArray, List.set_cons_zero, List.set_cons_succ, i64_w, i32_w]
          rfl
         refine pure_ (i := 29) (N := some 79) (v := undef) (a' := ?_) #[true, true, true, true, true, true, true, true, true, true, true, true, true, true, true, true, true, true, true, true, true, true, true, true, true, true, true, true, true, true, false, false, false, false, false] rfl rfl (any_of HT_.out (by kernel_rfl)) (fun _ _ _ h => h) (Or.inr ⟨by rfl, rfl⟩) ?_ ?_
         rotate_left
         ·simp only [Act.put, List.setIfInBounds_toArray, List.set_cons_zero, List.set_cons_succ, i64_w, i32_w]
          rfl
         refine pure_ (i := 30) (N := some 80) (v := undef) (a' := ?_) #[true, true, true, true, true, true, true, true, true, true, true, true, true, true, true, true, true, true, true, true, true, true, true, true, true, true, true, true, true, true, true, false, false, false, false] rfl rfl (any_of HT_.out (by kernel_rfl)) (fun _ _ _ h => h) (Or.inr ⟨by rfl, rfl⟩) ?_ ?_
         rotate_left
         ·simp only [Act.put, List.setIfInBounds_toArray, List.set_cons_zero, List.set_cons_succ, i64_w, i32_w]
          rfl
         refine pure_ (i := 31) (N := some 81) (v := undef) (a' := ?_) #[true, true, true, true, true, true, true, true, true, true, true, true, true, true, true, true, true, true, true, true, true, true, true, true, true, true, true, true, true, true, true, true, false, false, false] rfl rfl (any_of HT_.out (by kernel_rfl)) (fun _ _ _ h => h) (Or.inr ⟨by rfl, rfl⟩) ?_ ?_
         rotate_left
         ·simp only [Act.put, List.setIfInBounds_toArray, List.set_cons_zero, List.set_cons_succ, i64_w, i32_w]
          rfl
         refine pure_ (i := 32) (N := some 82) (v := undef) (a' := ?_) #[true, true, true, true, true, true, true, true, true, true, true, true, true, true, true, true, true, true, true, true, true, true, true, true, true, true, true, true, true, true, true, true, true, false, false] rfl rfl (any_of HT_.out (by kernel_rfl)) (fun _ _ _ h => h) (Or.inr ⟨by rfl, rfl⟩) ?_ ?_
         rotate_left
         ·simp only [Act.put, List.setIfInBounds_toArray, List.set_cons_zero, List.set_cons_succ, i64_w, i32_w]
          rfl
         refine pure_ (i := 33) (N := some 83) (v := ?_) (a' := ?_) #[true, true, true, true, true, true, true, true, true, true, true, true, true, true, true, true, true, true, true, true, true, true, true, true, true, true, true, true, true, true, true, true, true, true, false] rfl rfl (any_of HT_.out (by kernel_rfl)) (fun _ _ _ h => h) (Or.inl ⟨by rfl, ?_⟩) ?_ ?_
         rotate_left
         ·intro w'
          go_simp
          with_reducible rfl
         rotate_left
         ·simp only [Act.put, List.setIfInBounds_toArray, List.set_cons_zero, List.set_cons_succ, i64_w, i32_w]
          rfl
         refine pure_ (i := 34) (N := some 2) (v := ?_) (a' := ?_) #[true, true, true, true, true, true, true, true, true, true, true, true, true, true, true, true, true, true, true, true, true, true, true, true, true, true, true, true, true, true, true, true, true, true, true] rfl rfl (any_of HT_.out (by kernel_rfl)) (fun _ _ _ h => h) (Or.inl ⟨by rfl, ?_⟩) ?_ ?_
         rotate_left
         ·intro w'
          go_simp
          with_reducible rfl
         rotate_left
         ·simp only [Act.put, List.setIfInBounds_toArray, List.set_cons_zero, List.set_cons_succ, i64_w, i32_w]
          rfl
         refine done_ (done_of HT_.out (by kernel_rfl)) ?_
         try go_wp2
         go_ret
         exact ⟨er_, B3_ HB.out GE352.out GE371.out GE372.out⟩
       ·rw [if_neg c34] at H
        have c34b0 : (t376 == t377) = false := by simpa using c34
        (try (have c34b1 : decide (t376 = t377) = false := by simpa using c34))
        (try (have c34b2 : (t376 == t377) = false := by simpa using c34))
        (try (have c34b3 : ¬ (t376 = t377) := by simpa using c34))
        clear c34
        obtain rfl := Option.some.inj H
        obtain ⟨hcz78_0, hcz78_1, hcz78_2, hcz78_3, hfz78_0, hfz78_1, hfz78_2, hfz78_3⟩ := box4_ BK352.out
        try go_wp2_with (first | ((with_reducible refine gate_callee (f := 30) rfl ?_); refine goesL_ (some 45) rfl rfl Try.func30 (by kernel_rfl) rfl #[.slice A0 l0.length c0] rfl ma_ ?_; (with_reducible refine (spec_DrawEqualOptic.calls k1 _ _ l0 t359 t360 t361 t362 t365 t366 t367 t368 _ ?side1 ?side2 A26.out).mono ?_); (case side1 => exact C_ (Kd.C_below HR0.out HB.out)); (case side2 => exact HC0.out); rintro e w79 ⟨v363, v369, rfl, ho0, ho1, hb⟩; refine ⟨_, rfl, ?_⟩; have HO364 := Aside0.mk (Kd.N_lower (Kd.N_mono (ok' := fun k_ => some k_ ≠ (v369 : Value).ownBlock ∧ some k_ ≠ (.slice Ao9 t349.length co9 : Value).ownBlock ∧ k_ ≠ gb352) (Kd.R_N (Kd.R_bound ho0)) (fun k_ hk_ => ⟨hk_.1, (Kd.fresh' (Kd.N_lt (N_ HO_353003.out)) k_ hk_.2.1), (Kd.freshB (K_ BK352.out) k_ hk_.2.1)⟩)) (below_size (B1_ HB.out GE352.out))); have HO370 := Aside0.mk (Kd.N_lower (Kd.N_mono (ok' := fun k_ => some k_ ≠ (v363 : Value).ownBlock ∧ some k_ ≠ (.slice Ao9 t349.length co9 : Value).ownBlock ∧ k_ ≠ gb352) (Kd.R_N (Kd.R_bound ho1)) (fun k_ hk_ => ⟨hk_.1, (Kd.fresh' (Kd.N_lt (N_ HO_353003.out)) k_ hk_.2.1), (Kd.freshB (K_ BK352.out) k_ hk_.2.1)⟩)) (below_size (B1_ HB.out GE352.out))); replace HO_353003 := Aside0.mk (Kd.N_mono (Kd.N_told (Kd.N_told (Kd.N_old (N_ HO_353003.out) hb) (Kd.R_base ho0)) (Kd.R_base ho1)) (fun _ h_ => h_.1)); replace BK352 := Aside0.mk (blk_below (K_ BK352.out) hb); replace HB := Aside0.mk (below_step (B1_ HB.out GE352.out) hb); (try clear hb); (try clear hb2); (try clear hk); (try clear hi); (try clear ho0); (try clear ho1)) | ((with_reducible refine gate_dst (N := 7) rfl ?_); refine box_event ?hg (N := 7) ?hd (cs := #[.int .i64 0, .string (⟨#[]⟩ : ByteArray), .int .i64 0, .slice none 0 0]) (t := 29) ?hr ?_; (case hd => rfl); (case hg => rfl); (case hr => first | (go_simp; done) | (go_simp; rfl)); intro gb371 hg w80 hbox hb; replace HO_353003 := Aside0.mk (Kd.N_below (Kd.N_elderB (N_ HO_353003.out) gb371 (Nat.le_of_eq hg.symm)) hb); replace HO364 := Aside0.mk (Kd.N_below (Kd.N_elderB (N_ HO364.out) gb371 (Nat.le_of_eq hg.symm)) hb); replace HO370 := Aside0.mk (Kd.N_below (Kd.N_elderB (N_ HO370.out) gb371 (Nat.le_of_eq hg.symm)) hb); have BK371 := Aside0.mk (hbox); have GW371 := Aside0.mk ((by rw [hg]; exact (below_size (B1_ HB.out GE352.out)) : w.heap.size ≤ gb371)); have GE371 := Aside0.mk ((by rw [hg]; exact (below_size (B1_ HB.out GE352.out)) : w.heap.size ≤ gb371)); replace HB := Aside0.mk (below_step (B1_ HB.out GE352.out) hb); have NB352_371 := Aside0.mk ((by rw [hg]; exact Nat.ne_of_lt (blk_lt (K_ BK352.out)) : gb352 ≠ gb371)); have NB371_352 := Aside0.mk ((by rw [hg]; exact Nat.ne_of_gt (blk_lt (K_ BK352.out)) : gb371 ≠ gb352)); replace BK352 := Aside0.mk (blk_below (K_ BK352.out) hb); clear hb hbox hg) | ((with_reducible refine gate_dst (N := 8) rfl ?_); refine box_event ?hg (N := 8) ?hd (cs := #[.int .i64 0, .string (⟨#[]⟩ : ByteArray), .int .i64 0, .slice none 0 0]) (t := 29) ?hr ?_; (case hd => rfl); (case hg => rfl); (case hr => first | (go_simp; done) | (go_simp; rfl)); intro gb372 hg w81 hbox hb; replace HO_353003 := Aside0.mk (Kd.N_below (Kd.N_elderB (N_ HO_353003.out) gb372 (Nat.le_of_eq hg.symm)) hb); replace HO364 := Aside0.mk (Kd.N_below (Kd.N_elderB (N_ HO364.out) gb372 (Nat.le_of_eq hg.symm)) hb); replace HO370 := Aside0.mk (Kd.N_below (Kd.N_elderB (N_ HO370.out) gb372 (Nat.le_of_eq hg.symm)) hb); have BK372 := Aside0.mk (hbox); have GW372 := Aside0.mk ((by rw [hg]; exact (below_size (B2_ HB.out GE352.out GE371.out)) : w.heap.size ≤ gb372)); have GE372 := Aside0.mk ((by rw [hg]; exact (below_size (B2_ HB.out GE352.out GE371.out)) : w.heap.size ≤ gb372)); replace HB := Aside0.mk (below_step (B2_ HB.out GE352.out GE371.out) hb); have NB352_372 := Aside0.mk ((by rw [hg]; exact Nat.ne_of_lt (blk_lt (K_ BK352.out)) : gb352 ≠ gb372)); have NB372_352 := Aside0.mk ((by rw [hg]; exact Nat.ne_of_gt (blk_lt (K_ BK352.out)) : gb372 ≠ gb352)); replace BK352 := Aside0.mk (blk_below (K_ BK352.out) hb); have NB371_372 := Aside0.mk ((by rw [hg]; exact Nat.ne_of_lt (blk_lt (K_ BK371.out)) : gb371 ≠ gb372)); have NB372_371 := Aside0.mk ((by rw [hg]; exact Nat.ne_of_gt (blk_lt (K_ BK371.out)) : gb372 ≠ gb371)); replace BK371 := Aside0.mk (blk_below (K_ BK371.out) hb); clear hb hbox hg; have hnb82 := NB371_352.out; have hnc82 := NB352_371.out; have hnb83 := NB371_372.out; have hnc83 := NB372_371.out; obtain ⟨hcz84_0, hcz84_1, hcz84_2, hcz84_3, hfz84_0, hfz84_1, hfz84_2, hfz84_3⟩ := box4_ BK371.out; obtain ⟨Ao85, co85, eo85⟩ := Kd.N_slice HO364.out; subst eo85; have hnb86 := NB372_352.out; have hnc86 := NB352_372.out; obtain ⟨hcz87_0, hcz87_1, hcz87_2, hcz87_3, hfz87_0, hfz87_1, hfz87_2, hfz87_3⟩ := box4_ BK372.out; obtain ⟨Ao88, co88, eo88⟩ := Kd.N_slice HO370.out; subst eo88) | ((with_reducible refine gate_callee (f := 31) rfl ?_); refine goesL_ (some 49) rfl rfl Try.func31 (by kernel_rfl) rfl #[.slice A0 l0.length c0] rfl ma_ ?_; (with_reducible refine (spec_DrawArityOf.calls k1 _ _ l0 t373 _ ?side1 ?side2 A27.out).mono ?_); (case side1 => exact Kd.C_below HR0.out (B3_ HB.out GE352.out GE371.out GE372.out)); (case side2 => exact HC0.out); rintro e w89 ⟨rfl, hb⟩; refine ⟨_, rfl, ?_⟩; replace HO_353003 := Aside0.mk (Kd.N_below (by (with_reducible repeat (first | apply Kd.N_alloc | apply Kd.N_drewN | apply Kd.N_drew)); exact (Kd.N_mono (Kd.N_mono (Kd.N_far (p := ⟨gb372, 3, none⟩) (Kd.N_far (p := ⟨gb372, 2, none⟩) (Kd.N_far (p := ⟨gb372, 1, none⟩) (Kd.N_far (p := ⟨gb372, 0, none⟩) (Kd.N_far (p := ⟨gb371, 3, none⟩) (Kd.N_far (p := ⟨gb371, 2, none⟩) (Kd.N_far (p := ⟨gb371, 1, none⟩) (Kd.N_far (p := ⟨gb371, 0, none⟩) (Kd.N_mono (Kd.N_mono HO_353003.out (fun k_ hk => (⟨hk, hk.1.2⟩ : _ ∧ k_ ≠ gb371))) (fun k_ hk => (⟨hk, hk.1.2⟩ : _ ∧ k_ ≠ gb372))) (fun _ hk => hk.1.2) (.int .i64 t359)) (fun _ hk => hk.1.2) (.string t360)) (fun _ hk => hk.1.2) (.int .i64 t361)) (fun _ hk => hk.1.2) (.slice Ao85 t362.length co85)) (fun _ hk => hk.2) (.int .i64 t365)) (fun _ hk => hk.2) (.string t366)) (fun _ hk => hk.2) (.int .i64 t367)) (fun _ hk => hk.2) (.slice Ao88 t368.length co88)) (fun _ h_ => h_.1)) (fun _ h_ => h_.1))) hb); replace HO364 := Aside0.mk (Kd.N_below (by (with_reducible repeat (first | apply Kd.N_alloc | apply Kd.N_drewN | apply Kd.N_drew)); exact (Kd.N_mono (Kd.N_mono (Kd.N_far (p := ⟨gb372, 3, none⟩) (Kd.N_far (p := ⟨gb372, 2, none⟩) (Kd.N_far (p := ⟨gb372, 1, none⟩) (Kd.N_far (p := ⟨gb372, 0, none⟩) (Kd.N_far (p := ⟨gb371, 3, none⟩) (Kd.N_far (p := ⟨gb371, 2, none⟩) (Kd.N_far (p := ⟨gb371, 1, none⟩) (Kd.N_far (p := ⟨gb371, 0, none⟩) (Kd.N_mono (Kd.N_mono HO364.out (fun k_ hk => (⟨hk, hk.1.2⟩ : _ ∧ k_ ≠ gb371))) (fun k_ hk => (⟨hk, hk.1.2⟩ : _ ∧ k_ ≠ gb372))) (fun _ hk => hk.1.2) (.int .i64 t359)) (fun _ hk => hk.1.2) (.string t360)) (fun _ hk => hk.1.2) (.int .i64 t361)) (fun _ hk => hk.1.2) (.slice Ao85 t362.length co85)) (fun _ hk => hk.2) (.int .i64 t365)) (fun _ hk => hk.2) (.string t366)) (fun _ hk => hk.2) (.int .i64 t367)) (fun _ hk => hk.2) (.slice Ao88 t368.length co88)) (fun _ h_ => h_.1)) (fun _ h_ => h_.1))) hb); replace HO370 := Aside0.mk (Kd.N_below (by (with_reducible repeat (first | apply Kd.N_alloc | apply Kd.N_drewN | apply Kd.N_drew)); exact (Kd.N_mono (Kd.N_mono (Kd.N_far (p := ⟨gb372, 3, none⟩) (Kd.N_far (p := ⟨gb372, 2, none⟩) (Kd.N_far (p := ⟨gb372, 1, none⟩) (Kd.N_far (p := ⟨gb372, 0, none⟩) (Kd.N_far (p := ⟨gb371, 3, none⟩) (Kd.N_far (p := ⟨gb371, 2, none⟩) (Kd.N_far (p := ⟨gb371, 1, none⟩) (Kd.N_far (p := ⟨gb371, 0, none⟩) (Kd.N_mono (Kd.N_mono HO370.out (fun k_ hk => (⟨hk, hk.1.2⟩ : _ ∧ k_ ≠ gb371))) (fun k_ hk => (⟨hk, hk.1.2⟩ : _ ∧ k_ ≠ gb372))) (fun _ hk => hk.1.2) (.int .i64 t359)) (fun _ hk => hk.1.2) (.string t360)) (fun _ hk => hk.1.2) (.int .i64 t361)) (fun _ hk => hk.1.2) (.slice Ao85 t362.length co85)) (fun _ hk => hk.2) (.int .i64 t365)) (fun _ hk => hk.2) (.string t366)) (fun _ hk => hk.2) (.int .i64 t367)) (fun _ hk => hk.2) (.slice Ao88 t368.length co88)) (fun _ h_ => h_.1)) (fun _ h_ => h_.1))) hb); replace BK352 := Aside0.mk (blk_below (g := gb352) (o := .cells #[.int .i64 t346, .string t347, .int .i64 t348, .slice Ao9 t349.length co9] 29 (0, 0)) (by (with_reducible repeat (first | refine blk_drewN ?_ _ | refine blk_drew ?_ | refine blk_alloc ?_ _)); refine blk_far ?_ NB352_372.out _; (with_reducible repeat (first | refine blk_drewN ?_ _ | refine blk_drew ?_ | refine blk_alloc ?_ _)); refine blk_far ?_ NB352_372.out _; (with_reducible repeat (first | refine blk_drewN ?_ _ | refine blk_drew ?_ | refine blk_alloc ?_ _)); refine blk_far ?_ NB352_372.out _; (with_reducible repeat (first | refine blk_drewN ?_ _ | refine blk_drew ?_ | refine blk_alloc ?_ _)); refine blk_far ?_ NB352_372.out _; (with_reducible repeat (first | refine blk_drewN ?_ _ | refine blk_drew ?_ | refine blk_alloc ?_ _)); refine blk_far ?_ NB352_371.out _; (with_reducible repeat (first | refine blk_drewN ?_ _ | refine blk_drew ?_ | refine blk_alloc ?_ _)); refine blk_far ?_ NB352_371.out _; (with_reducible repeat (first | refine blk_drewN ?_ _ | refine blk_drew ?_ | refine blk_alloc ?_ _)); refine blk_far ?_ NB352_371.out _; (with_reducible repeat (first | refine blk_drewN ?_ _ | refine blk_drew ?_ | refine blk_alloc ?_ _)); refine blk_far ?_ NB352_371.out _; (with_reducible repeat (first | refine blk_drewN ?_ _ | refine blk_drew ?_ | refine blk_alloc ?_ _)); exact BK352.out) hb); replace BK371 := Aside0.mk (blk_below (g := gb371) (o := .cells #[.int .i64 t359, .string t360, .int .i64 t361, .slice Ao85 t362.length co85] 29 (0, 0)) (by (with_reducible repeat (first | refine blk_drewN ?_ _ | refine blk_drew ?_ | refine blk_alloc ?_ _)); refine blk_far ?_ NB371_372.out _; (with_reducible repeat (first | refine blk_drewN ?_ _ | refine blk_drew ?_ | refine blk_alloc ?_ _)); refine blk_far ?_ NB371_372.out _; (with_reducible repeat (first | refine blk_drewN ?_ _ | refine blk_drew ?_ | refine blk_alloc ?_ _)); refine blk_far ?_ NB371_372.out _; (with_reducible repeat (first | refine blk_drewN ?_ _ | refine blk_drew ?_ | refine blk_alloc ?_ _)); refine blk_far ?_ NB371_372.out _; (with_reducible repeat (first | refine blk_drewN ?_ _ | refine blk_drew ?_ | refine blk_alloc ?_ _)); refine blk_put (cs := #[.int .i64 t359, .string t360, .int .i64 t361, .slice none 0 0]) ?_ 3 _ rfl; (with_reducible repeat (first | refine blk_drewN ?_ _ | refine blk_drew ?_ | refine blk_alloc ?_ _)); refine blk_put (cs := #[.int .i64 t359, .string t360, .int .i64 0, .slice none 0 0]) ?_ 2 _ rfl; (with_reducible repeat (first | refine blk_drewN ?_ _ | refine blk_drew ?_ | refine blk_alloc ?_ _)); refine blk_put (cs := #[.int .i64 t359, .string (⟨#[]⟩ : ByteArray), .int .i64 0, .slice none 0 0]) ?_ 1 _ rfl; (with_reducible repeat (first | refine blk_drewN ?_ _ | refine blk_drew ?_ | refine blk_alloc ?_ _)); refine blk_put (cs := #[.int .i64 0, .string (⟨#[]⟩ : ByteArray), .int .i64 0, .slice none 0 0]) ?_ 0 _ rfl; (with_reducible repeat (first | refine blk_drewN ?_ _ | refine blk_drew ?_ | refine blk_alloc ?_ _)); exact BK371.out) hb); replace BK372 := Aside0.mk (blk_below (g := gb372) (o := .cells #[.int .i64 t365, .string t366, .int .i64 t367, .slice Ao88 t368.length co88] 29 (0, 0)) (by (with_reducible repeat (first | refine blk_drewN ?_ _ | refine blk_drew ?_ | refine blk_alloc ?_ _)); refine blk_put (cs := #[.int .i64 t365, .string t366, .int .i64 t367, .slice none 0 0]) ?_ 3 _ rfl; (with_reducible repeat (first | refine blk_drewN ?_ _ | refine blk_drew ?_ | refine blk_alloc ?_ _)); refine blk_put (cs := #[.int .i64 t365, .string t366, .int .i64 0, .slice none 0 0]) ?_ 2 _ rfl; (with_reducible repeat (first | refine blk_drewN ?_ _ | refine blk_drew ?_ | refine blk_alloc ?_ _)); refine blk_put (cs := #[.int .i64 t365, .string (⟨#[]⟩ : ByteArray), .int .i64 0, .slice none 0 0]) ?_ 1 _ rfl; (with_reducible repeat (first | refine blk_drewN ?_ _ | refine blk_drew ?_ | refine blk_alloc ?_ _)); refine blk_put (cs := #[.int .i64 0, .string (⟨#[]⟩ : ByteArray), .int .i64 0, .slice none 0 0]) ?_ 0 _ rfl; (with_reducible repeat (first | refine blk_drewN ?_ _ | refine blk_drew ?_ | refine blk_alloc ?_ _)); refine blk_far ?_ NB372_371.out _; (with_reducible repeat (first | refine blk_drewN ?_ _ | refine blk_drew ?_ | refine blk_alloc ?_ _)); refine blk_far ?_ NB372_371.out _; (with_reducible repeat (first | refine blk_drewN ?_ _ | refine blk_drew ?_ | refine blk_alloc ?_ _)); refine blk_far ?_ NB372_371.out _; (with_reducible repeat (first | refine blk_drewN ?_ _ | refine blk_drew ?_ | refine blk_alloc ?_ _)); refine blk_far ?_ NB372_371.out _; (with_reducible repeat (first | refine blk_drewN ?_ _ | refine blk_drew ?_ | refine blk_alloc ?_ _)); exact BK372.out) hb); replace HB := Aside0.mk (below_step (B3_ HB.out GE352.out GE371.out GE372.out) hb); (try clear hb); (try clear hb2); (try clear hk); (try clear hi)))
        replace HO_353003 := Aside0.mk (Kd.N_drew HO_353003.out)
        replace HO364 := Aside0.mk (Kd.N_drew HO364.out)
        replace HO370 := Aside0.mk (Kd.N_drew HO370.out)
        replace BK352 := Aside0.mk (blk_drew BK352.out)
        replace BK371 := Aside0.mk (blk_drew BK371.out)
        replace BK372 := Aside0.mk (blk_drew BK372.out)
        replace HB := Aside0.mk (below_drew1 HB.out)
        refine start_ (n := 35) (S := fun w' => w'.cell? ⟨gb352, 0, none⟩ = some (.int .i64 t346) ∧ w'.cell? ⟨gb352, 1, none⟩ = some (.string t347) ∧ w'.cell? ⟨gb352, 2, none⟩ = some (.int .i64 t348) ∧ w'.cell? ⟨gb352, 3, none⟩ = some (.slice Ao9 t349.length co9)) (ds := []) #[false, false, false, false, false, false, false, false, false, false, false, false, false, false, false, false, false, false, false, false, false, false, false, false, false, false, false, false, false, false, false, false, false, false, false] (by kernel_rfl) rfl rfl ⟨(blk_cell BK352.out 0).trans rfl, (blk_cell BK352.out 1).trans rfl, (blk_cell BK352.out 2).trans rfl, (blk_cell BK352.out 3).trans rfl⟩ (fun hHeld => ?_); refine with_tabW laws_FnOptics.tab14 laws_FnOptics.bits14 (fun HT_ HW_ => ?_)
        generalize w89.drew = w90 at HO_353003 HO364 HO370 BK352 BK371 BK372 HB hHeld ⊢
        refine pure_ (i := 2) (N := some 52) (v := ?_) (a' := ?_) #[false, false, true, false, false, false, false, false, false, false, false, false, false, false, false, false, false, false, false, false, false, false, false, false, false, false, false, false, false, false, false, false, false, false, false] rfl rfl (any_of HT_.out (by kernel_rfl)) (fun _ _ _ h => h) (Or.inl ⟨by rfl, ?_⟩) ?_ ?_
        rotate_left
        ·intro w'
         go_simp
         with_reducible rfl
        rotate_left
        ·simp only [Act.put, List.setIfInBounds_toArray, List.set_cons_zero, List.set_cons_succ, i64_w, i32_w]
         rfl
        refine take_ (i := 0) (N := some 50) (v := ?_) (a' := ?_) #[true, false, true, false, false, false, false, false, false, false, false, false, false, false, false, false, false, false, false, false, false, false, false, false, false, false, false, false, false, false, false, false, false, false, false] rfl rfl (take_ofW HT_.out HW_.out (by kernel_rfl)) (fun _ _ _ h => h) (Or.inl ⟨by rfl, ?_⟩) hHeld ?_ ?_
        rotate_left
        ·rintro w' ⟨s0, s1, s2, s3⟩
         go_simp
         with_reducible rfl
        rotate_left
        ·simp only [Act.put, List.setIfInBounds_toArray, List.set_cons_zero, List.set_cons_succ, i64_w, i32_w]
         rfl
        refine one_ (i := 1) (N := some 51) #[true, true, true, false, false, false, false, false, false, false, false, false, false, false, false, false, false, false, false, false, false, false, false, false, false, false, false, false, false, false, false, false, false, false, false] rfl rfl (one_of HT_.out (by kernel_rfl)) (by decide) (fun K hK => ?_)
        refine goes_ Try.func16 (by kernel_rfl) rfl #[.agg #[.int .i64 t346, .string t347, .int .i64 t348, .slice Ao9 t349.length co9]] (by rfl) rfl rfl ma_ ?_
        with_reducible refine (impl_SizeOf.calls k1 t346 t347 t348 _ _ t349 t374 _ ?side1 ?side2 A28.out).mono ?_
        (case side1 => exact C_ (Kd.N_reads' HO_353003.out).2.2)
        (case side2 => exact (Kd.N_reads' HO_353003.out).2.1)
        rintro e w91 ⟨rfl, hb⟩
        refine ⟨_, rfl, ?_⟩
        replace HO_353003 := Aside0.mk (Kd.N_below (N_ HO_353003.out) hb)
        replace HO364 := Aside0.mk (Kd.N_below (N_ HO364.out) hb)
        replace HO370 := Aside0.mk (Kd.N_below (N_ HO370.out) hb)
        replace BK352 := Aside0.mk (blk_below (K_ BK352.out) hb)
        replace BK371 := Aside0.mk (blk_below (K_ BK371.out) hb)
        replace BK372 := Aside0.mk (blk_below (K_ BK372.out) hb)
        replace HB := Aside0.mk (below_step (B3_ HB.out GE352.out GE371.out GE372.out) hb)
        (try clear hb)
        (try clear hb2)
        (try clear hk)
        (try clear hi)
        refine hK.out _ _ ⟨(blk_cell BK352.out 0).trans rfl, (blk_cell BK352.out 1).trans rfl, (blk_cell BK352.out 2).trans rfl, (blk_cell BK352.out 3).trans rfl⟩ (fun hHeld => ?_)
        clear hK K
        refine norm_ (a' := ?_) ?_ ?_
        rotate_left
        ·show Act.put _ (some 51) _ = _
         simp only [Act.put, List.setIfInBounds_toArray, List.set_cons_zero, List.set_cons_succ, i64_w, i32_w]
         rfl
        refine pure_ (i := 3) (N := some 53) (v := ?_) (a' := ?_) #[true, true, true, true, false, false, false, false, false, false, false, false, false, false, false, false, false, false, false, false, false, false, false, false, false, false, false, false, false, false, false, false, false, false, false] rfl rfl (any_of HT_.out (by kernel_rfl)) (fun _ _ _ h => h) (Or.inl ⟨by rfl, ?_⟩) ?_ ?_
        rotate_left
        ·intro w'
         go_simp
         with_reducible rfl
        rotate_left
        ·simp only [Act.put, List.setIfInBounds_toArray, List.set_cons_zero, List.set_cons_succ, i64_w, i32_w]
         rfl
        refine pure_ (i := 4) (N := some 54) (v := ?_) (a' := ?_) #[true, true, true, true, true, false, false, false, false, false, false, false, false, false, false, false, false, false, false, false, false, false, false, false, false, false, false, false, false, false, false, false, false, false, false] rfl rfl (any_of HT_.out (by kernel_rfl)) (fun _ _ _ h => h) (Or.inl ⟨by rfl, ?_⟩) ?_ ?_
        rotate_left
        ·intro w'
         go_simp
         with_reducible rfl
        rotate_left
        ·simp only [Act.put, List.setIfInBounds_toArray, List.set_cons_zero, List.set_cons_succ, i64_w, i32_w]
         rfl
        refine pure_ (i := 7) (N := some 57) (v := ?_) (a' := ?_) #[true, true, true, true, true, false, false, true, false, false, false, false, false, false, false, false, false, false, false, false, false, false, false, false, false, false, false, false, false, false, false, false, false, false, false] rfl rfl (any_of HT_.out (by kernel_rfl)) (fun _ _ _ h => h) (Or.inl ⟨by rfl, ?_⟩) ?_ ?_
        rotate_left
        ·intro w'
         go_simp
         with_reducible rfl
        rotate_left
        ·simp only [Act.put, List.setIfInBounds_toArray, List.set_cons_zero, List.set_cons_succ, i64_w, i32_w]
         rfl
        refine pure_ (i := 8) (N := some 58) (v := ?_) (a' := ?_) #[true, true, true, true, true, false, false, true, true, false, false, false, false, false, false, false, false, false, false, false, false, false, false, false, false, false, false, false, false, false, false, false, false, false, false] rfl rfl (any_of HT_.out (by kernel_rfl)) (fun _ _ _ h => h) (Or.inl ⟨by rfl, ?_⟩) ?_ ?_
        rotate_left
        ·intro w'
         go_simp
         with_reducible rfl
        rotate_left
        ·simp only [Act.put, List.setIfInBounds_toArray, List.set_cons_zero, List.set_cons_succ, i64_w, i32_w]
         rfl
        refine take_ (i := 5) (N := some 55) (v := ?_) (a' := ?_) #[true, true, true, true, true, true, false, true, true, false, false, false, false, false, false, false, false, false, false, false, false, false, false, false, false, false, false, false, false, false, false, false, false, false, false] rfl rfl (take_ofW HT_.out HW_.out (by kernel_rfl)) (fun _ _ _ h => h) (Or.inl ⟨by rfl, ?_⟩) hHeld ?_ ?_
        rotate_left
        ·rintro w' ⟨s0, s1, s2, s3⟩
         go_simp
         with_reducible rfl
        rotate_left
        ·simp only [Act.put, List.setIfInBounds_toArray, List.set_cons_zero, List.set_cons_succ, i64_w, i32_w]
         rfl
        refine one_ (i := 6) (N := some 56) #[true, true, true, true, true, true, true, true, true, false, false, false, false, false, false, false, false, false, false, false, false, false, false, false, false, false, false, false, false, false, false, false, false, false, false] rfl rfl (one_of HT_.out (by kernel_rfl)) (by decide) (fun K hK => ?_)
        refine goes_ Try.func19 (by kernel_rfl) rfl #[.agg #[.int .i64 t346, .string t347, .int .i64 t348, .slice Ao9 t349.length co9]] (by rfl) rfl rfl ma_ ?_
        with_reducible refine (impl_DepthOf.calls k1 t346 t347 t348 _ _ t349 t375 _ ?side1 ?side2 A30.out).mono ?_
        (case side1 => exact C_ (Kd.N_reads' HO_353003.out).2.2)
        (case side2 => exact (Kd.N_reads' HO_353003.out).2.1)
        rintro e w92 ⟨rfl, hb⟩
        refine ⟨_, rfl, ?_⟩
        replace HO_353003 := Aside0.mk (Kd.N_below (N_ HO_353003.out) hb)
        replace HO364 := Aside0.mk (Kd.N_below (N_ HO364.out) hb)
        replace HO370 := Aside0.mk (Kd.N_below (N_ HO370.out) hb)
        replace BK352 := Aside0.mk (blk_below (K_ BK352.out) hb)
        replace BK371 := Aside0.mk (blk_below (K_ BK371.out) hb)
        replace BK372 := Aside0.mk (blk_below (K_ BK372.out) hb)
        replace HB := Aside0.mk (below_step (B3_ HB.out GE352.out GE371.out GE372.out) hb)
        (try clear hb)
        (try clear hb2)
        (try clear hk)
        (try clear hi)
        refine hK.out _ _ ⟨(blk_cell BK352.out 0).trans rfl, (blk_cell BK352.out 1).trans rfl, (blk_cell BK352.out 2).trans rfl, (blk_cell BK352.out 3).trans rfl⟩ (fun hHeld => ?_)
        clear hK K
        refine norm_ (a' := ?_) ?_ ?_
        rotate_left
        ·show Act.put _ (some 56) _ = _
         simp only [Act.put, List.setIfInBounds_toArray, List.set_cons_zero, List.set_cons_succ, i64_w, i32_w]
         rfl
        refine pure_ (i := 9) (N := some 59) (v := ?_) (a' := ?_) #[true, true, true, true, true, true, true, true, true, true, false, false, false, false, false, false, false, false, false, false, false, false, false, false, false, false, false, false, false, false, false, false, false, false, false] rfl rfl (any_of HT_.out (by kernel_rfl)) (fun _ _ _ h => h) (Or.inl ⟨by rfl, ?_⟩) ?_ ?_
        rotate_left
        ·intro w'
         go_simp
         with_reducible rfl
        rotate_left
        ·simp only [Act.put, List.setIfInBounds_toArray, List.set_cons_zero, List.set_cons_succ, i64_w, i32_w]
         rfl
        refine pure_ (i := 10) (N := some 60) (v := ?_) (a' := ?_) #[true, true, true, true, true, true, true, true, true, true, true, false, false, false, false, false, false, false, false, false, false, false, false, false, false, false, false, false, false, false, false, false, false, false, false] rfl rfl (any_of HT_.out (by kernel_rfl)) (fun _ _ _ h => h) (Or.inl ⟨by rfl, ?_⟩) ?_ ?_
        rotate_left
        ·intro w'
         go_simp
         with_reducible rfl
        rotate_left
        ·simp only [Act.put, List.setIfInBounds_toArray, List.set_cons_zero, List.set_cons_succ, i64_w, i32_w]
         rfl
        refine pure_ (i := 11) (N := some 61) (v := ?_) (a' := ?_) #[true, true, true, true, true, true, true, true, true, true, true, true, false, false, false, false, false, false, false, false, false, false, false, false, false, false, false, false, false, false, false, false, false, false, false] rfl rfl (any_of HT_.out (by kernel_rfl)) (fun _ _ _ h => h) (Or.inl ⟨by rfl, ?_⟩) ?_ ?_
        rotate_left
        ·intro w'
         go_simp
         with_reducible rfl
        rotate_left
        ·simp only [Act.put, List.setIfInBounds_toArray, List.set_cons_zero, List.set_cons_succ, i64_w, i32_w]
         rfl
        refine take_ (i := 12) (N := some 62) (v := ?_) (a' := ?_) #[true, true, true, true, true, true, true, true, true, true, true, true, true, false, false, false, false, false, false, false, false, false, false, false, false, false, false, false, false, false, false, false, false, false, false] rfl rfl (take_ofW HT_.out HW_.out (by kernel_rfl)) (fun _ _ _ h => h) (Or.inl ⟨by rfl, ?_⟩) hHeld ?_ ?_
        rotate_left
        ·rintro w' ⟨s0, s1, s2, s3⟩
         go_simp
         with_reducible rfl
        rotate_left
        ·simp only [Act.put, List.setIfInBounds_toArray, List.set_cons_zero, List.set_cons_succ, i64_w, i32_w]
         rfl
        refine take_ (i := 14) (N := some 64) (v := ?_) (a' := ?_) #[true, true, true, true, true, true, true, true, true, true, true, true, true, false, true, false, false, false, false, false, false, false, false, false, false, false, false, false, false, false, false, false, false, false, false] rfl rfl (take_ofW HT_.out HW_.out (by kernel_rfl)) (fun _ _ _ h => h) (Or.inl ⟨by rfl, ?_⟩) hHeld ?_ ?_
        rotate_left
        ·rintro w' ⟨s0, s1, s2, s3⟩
         go_simp
         with_reducible rfl
        rotate_left
        ·simp only [Act.put, List.setIfInBounds_toArray, List.set_cons_zero, List.set_cons_succ, i64_w, i32_w]
         rfl
        refine one_ (i := 13) (N := some 63) #[true, true, true, true, true, true, true, true, true, true, true, true, true, true, true, false, false, false, false, false, false, false, false, false, false, false, false, false, false, false, false, false, false, false, false] rfl rfl (one_of HT_.out (by kernel_rfl)) (by decide) (fun K hK => ?_)
        refine goes_ Try.func23 (by kernel_rfl) rfl #[.agg #[.int .i64 t346, .string t347, .int .i64 t348, .slice Ao9 t349.length co9]] (by rfl) rfl rfl ma_ ?_
        with_reducible refine (impl_IsOptic.calls k1 t346 t347 t348 _ _ t349 t376 _ ?side1 ?side2 A32.out).mono ?_
        (case side1 => exact C_ (Kd.N_reads' HO_353003.out).2.2)
        (case side2 => exact (Kd.N_reads' HO_353003.out).2.1)
        rintro e w93 ⟨rfl, hb⟩
        refine ⟨_, rfl, ?_⟩
        replace HO_353003 := Aside0.mk (Kd.N_below (N_ HO_353003.out) hb)
        replace HO364 := Aside0.mk (Kd.N_below (N_ HO364.out) hb)
        replace HO370 := Aside0.mk (Kd.N_below (N_ HO370.out) hb)
        replace BK352 := Aside0.mk (blk_below (K_ BK352.out) hb)
        replace BK371 := Aside0.mk (blk_below (K_ BK371.out) hb)
        replace BK372 := Aside0.mk (blk_below (K_ BK372.out) hb)
        replace HB := Aside0.mk (below_step (B3_ HB.out GE352.out GE371.out GE372.out) hb)
        (try clear hb)
        (try clear hb2)
        (try clear hk)
        (try clear hi)
        refine hK.out _ _ ⟨(blk_cell BK352.out 0).trans rfl, (blk_cell BK352.out 1).trans rfl, (blk_cell BK352.out 2).trans rfl, (blk_cell BK352.out 3).trans rfl⟩ (fun hHeld => ?_)
        clear hK K
        refine norm_ (a' := ?_) ?_ ?_
        rotate_left
        ·show Act.put _ (some 63) _ = _
         simp only [Act.put, List.setIfInBounds_toArray, List.set_cons_zero, List.set_cons_succ, i64_w, i32_w]
         rfl
        refine one_ (i := 15) (N := some 65) #[true, true, true, true, true, true, true, true, true, true, true, true, true, true, true, true, false, false, false, false, false, false, false, false, false, false, false, false, false, false, false, false, false, false, false] rfl rfl (one_of HT_.out (by kernel_rfl)) (by decide) (fun K hK => ?_)
        refine goes_ Try.func22 (by kernel_rfl) rfl #[.agg #[.int .i64 t346, .string t347, .int .i64 t348, .slice Ao9 t349.length co9]] (by rfl) rfl rfl ma_ ?_
        with_reducible refine (spec_IsOptic.calls k1 t346 t347 t348 _ _ t349 t377 _ ?side1 ?side2 A33.out).mono ?_
        (case side1 => exact C_ (Kd.N_reads' HO_353003.out).2.2)
        (case side2 => exact (Kd.N_reads' HO_353003.out).2.1)
        rintro e w94 ⟨rfl, hb⟩
        refine ⟨_, rfl, ?_⟩
        replace HO_353003 := Aside0.mk (Kd.N_below (N_ HO_353003.out) hb)
        replace HO364 := Aside0.mk (Kd.N_below (N_ HO364.out) hb)
        replace HO370 := Aside0.mk (Kd.N_below (N_ HO370.out) hb)
        replace BK352 := Aside0.mk (blk_below (K_ BK352.out) hb)
        replace BK371 := Aside0.mk (blk_below (K_ BK371.out) hb)
        replace BK372 := Aside0.mk (blk_below (K_ BK372.out) hb)
        replace HB := Aside0.mk (below_step (B3_ HB.out GE352.out GE371.out GE372.out) hb)
        (try clear hb)
        (try clear hb2)
        (try clear hk)
        (try clear hi)
        refine hK.out _ _ ⟨(blk_cell BK352.out 0).trans rfl, (blk_cell BK352.out 1).trans rfl, (blk_cell BK352.out 2).trans rfl, (blk_cell BK352.out 3).trans rfl⟩ (fun hHeld => ?_)
        clear hK K
        refine norm_ (a' := ?_) ?_ ?_
        rotate_left
        ·show Act.put _ (some 65) _ = _
         simp only [Act.put, List.setIfInBounds_toArray, List.set_cons_zero, List.set_cons_succ, i64_w, i32_w]
         rfl
        refine pure_ (i := 16) (N := some 66) (v := ?_) (a' := ?_) #[true, true, true, true, true, true, true, true, true, true, true, true, true, true, true, true, true, false, false, false, false, false, false, false, false, false, false, false, false, false, false, false, false, false, false] rfl rfl (any_of HT_.out (by kernel_rfl)) (fun _ _ _ h => h) (Or.inl ⟨by rfl, ?_⟩) ?_ ?_
        rotate_left
        ·intro w'
         go_simp
         with_reducible rfl
        rotate_left
        ·simp only [Act.put, List.setIfInBounds_toArray, List.set_cons_zero, List.set_cons_succ, i64_w, i32_w]
         rfl
        refine pure_ (i := 17) (N := some 67) (v := ?_) (a' := ?_) #[true, true, true, true, true, true, true, true, true, true, true, true, true, true, true, true, true, true, false, false, false, false, false, false, false, false, false, false, false, false, false, false, false, false, false] rfl rfl (any_of HT_.out (by kernel_rfl)) (fun _ _ _ h => h) (Or.inl ⟨by rfl, ?_⟩) ?_ ?_
        rotate_left
        ·intro w'
         go_simp
         with_reducible rfl
        rotate_left
        ·simp only [Act.put, List.setIfInBounds_toArray, List.set_cons_zero, List.set_cons_succ, i64_w, i32_w]
         rfl
        refine pure_ (i := 18) (N := some 68) (v := ?_) (a' := ?_) #[true, true, true, true, true, true, true, true, true, true, true, true, true, true, true, true, true, true, true, false, false, false, false, false, false, false, false, false, false, false, false, false, false, false, false] rfl rfl (any_of HT_.out (by kernel_rfl)) (fun _ _ _ h => h) (Or.inl ⟨by rfl, ?_⟩) ?_ ?_
        rotate_left
        ·intro w'
         go_simp
         with_reducible rfl
        rotate_left
        ·simp only [Act.put, List.setIfInBounds_toArray, List.set_cons_zero, List.set_cons_succ, i64_w, i32_w]
         rfl
        refine pure_ (i := 19) (N := some 69) (v := undef) (a' := ?_) #[true, true, true, true, true, true, true, true, true, true, true, true, true, true, true, true, true, true, true, true, false, false, false, false, false, false, false, false, false, false, false, false, false, false, false] rfl rfl (any_of HT_.out (by kernel_rfl)) (fun _ _ _ h => h) (Or.inr ⟨by rfl, rfl⟩) ?_ ?_
        rotate_left
        ·simp only [Act.put, List.setIfInBounds_toArray, List.set_cons_zero, List.set_cons_succ, i64_w, i32_w]
         rfl
        refine pure_ (i := 20) (N := some 70) (v := undef) (a' := ?_) #[true, true, true, true, true, true, true, true, true, true, true, true, true, true, true, true, true, true, true, true, true, false, false, false, false, false, false, false, false, false, false, false, false, false, false] rfl rfl (any_of HT_.out (by kernel_rfl)) (fun _ _ _ h => h) (Or.inr ⟨by rfl, rfl⟩) ?_ ?_
        rotate_left
        ·simp only [Act.put, List.setIfInBounds_toArray, List.set_cons_zero, List.set_cons_succ, i64_w, i32_w]
         rfl
        refine pure_ (i := 21) (N := some 71) (v := undef) (a' := ?_) #[true, true, true, true, true, true, true, true, true, true, true, true, true, true, true, true, true, true, true, true, true, true, false, false, false, false, false, false, false, false, false, false, false, false, false] rfl rfl (any_of HT_.out (by kernel_rfl)) (fun _ _ _ h => h) (Or.inr ⟨by rfl, rfl⟩) ?_ ?_
        rotate_left
        ·simp only [Act.put, List.setIfInBounds_toArray, List.set_cons_zero, List.set_cons_succ, i64_w, i32_w]
         rfl
        refine pure_ (i := 22) (N := some 72) (v := undef) (a' := ?_) #[true, true, true, true, true, true, true, true, true, true, true, true, true, true, true, true, true, true, true, true, true, true, true, false, false, false, false, false, false, false, false, false, false, false, false] rfl rfl (any_of HT_.out (by kernel_rfl)) (fun _ _ _ h => h) (Or.inr ⟨by rfl, rfl⟩) ?_ ?_
        rotate_left
        ·simp only [Act.put, List.setIfInBounds_toArray, List.set_cons_zero, List.set_cons_succ, i64_w, i32_w]
         rfl
        refine pure_ (i := 23) (N := some 73) (v := undef) (a' := ?_) #[true, true, true, true, true, true, true, true, true, true, true, true, true, true, true, true, true, true, true, true, true, true, true, true, false, false, false, false, false, false, false, false, false, false, false] rfl rfl (any_of HT_.out (by kernel_rfl)) (fun _ _ _ h => h) (Or.inr ⟨by rfl, rfl⟩) ?_ ?_
        rotate_left
        ·simp only [Act.put, List.setIfInBounds_toArray, List.set_cons_zero, List.set_cons_succ, i64_w, i32_w]
         rfl
        refine pure_ (i := 24) (N := some 74) (v := undef) (a' := ?_) #[true, true, true, true, true, true, true, true, true, true, true, true, true, true, true, true, true, true, true, true, true, true, true, true, true, false, false, false, false, false, false, false, false, false, false] rfl rfl (any_of HT_.out (by kernel_rfl)) (fun _ _ _ h => h) (Or.inr ⟨by rfl, rfl⟩) ?_ ?_
        rotate_left
        ·simp only [Act.put, List.setIfInBounds_toArray, List.set_cons_zero, List.set_cons_succ, i64_w, i32_w]
         rfl
        refine pure_ (i := 25) (N := some 75) (v := undef) (a' := ?_) #[true, true, true, true, true, true, true, true, true, true, true, true, true, true, true, true, true, true, true, true, true, true, true, true, true, true, false, false, false, false, false, false, false, false, false] rfl rfl (any_of HT_.out (by kernel_rfl)) (fun _ _ _ h => h) (Or.inr ⟨by rfl, rfl⟩) ?_ ?_
        rotate_left
        ·simp only [Act.put, List.setIfInBounds_toArray, List.set_cons_zero, List.set_cons_succ, i64_w, i32_w]
         rfl
        refine pure_ (i := 26) (N := some 76) (v := ?_) (a' := ?_) #[true, true, true, true, true, true, true, true, true, true, true, true, true, true, true, true, true, true, true, true, true, true, true, true, true, true, true, false, false, false, false, false, false, false, false] rfl rfl (any_of HT_.out (by kernel_rfl)) (fun _ _ _ h => h) (Or.inl ⟨by rfl, ?_⟩) ?_ ?_
        rotate_left
        ·intro w'
         go_simp
         with_reducible rfl
        rotate_left
        ·simp only [Act.put, List.setIfInBounds_toArray, List.set_cons_zero, List.set_cons_succ, i64_w, i32_w]
         rfl
        refine pure_ (i := 27) (N := some 77) (v := ?_) (a' := ?_) #[true, true, true, true, true, true, true, true, true, true, true, true, true, true, true, true, true, true, true, true, true, true, true, true, true, true, true, true, false, false, false, false, false, false, false] rfl rfl (any_of HT_.out (by kernel_rfl)) (fun _ _ _ h => h) (Or.inl ⟨by rfl, ?_⟩) ?_ ?_
        rotate_left
        ·intro w'
         go_simp
         with_reducible rfl
        rotate_left
        ·simp only [Act.put, List.setIfInBounds_toArray, List.set_cons_zero, List.set_cons_succ, i64_w, i32_w]
         rfl
        refine pure_ (i := 28) (N := some 78) (v := undef) (a' := ?_) #[true, true, true, true, true, true, true, true, true, true, true, true, true, true, true, true, true, true, true, true, true, true, true, true, true, true, true, true, true, false, false, false, false, false, false] rfl rfl (any_of HT_.out (by kernel_rfl)) (fun _ _ _ h => h) (Or.inr ⟨by rfl, rfl⟩) ?_ ?_
        rotate_left
        ·simp only [Act.put, List.setIfInBounds_toArray, List.set_cons_zero, List.set_cons_succ, i64_w, i32_w]
         rfl
        refine pure_ (i := 29) (N := some 79) (v := undef) (a' := ?_) #[true, true, true, true, true, true, true, true, true, true, true, true, true, true, true, true, true, true, true, true, true, true, true, true, true, true, true, true, true, true, false, false, false, false, false] rfl rfl (any_of HT_.out (by kernel_rfl)) (fun _ _ _ h => h) (Or.inr ⟨by rfl, rfl⟩) ?_ ?_
        rotate_left
        ·simp only [Act.put, List.setIfInBounds_toArray, List.set_cons_zero, List.set_cons_succ, i64_w, i32_w]
         rfl
        refine pure_ (i := 30) (N := some 80) (v := undef) (a' := ?_) #[true, true, true, true, true, true, true, true, true, true, true, true, true, true, true, true, true, true, true, true, true, true, true, true, true, true, true, true, true, true, true, false, false, false, false] rfl rfl (any_of HT_.out (by kernel_rfl)) (fun _ _ _ h => h) (Or.inr ⟨by rfl, rfl⟩) ?_ ?_
        rotate_left
        ·simp only [Act.put, List.setIfInBounds_toArray, List.set_cons_zero, List.set_cons_succ, i64_w, i32_w]
         rfl
        refine pure_ (i := 31) (N := some 81) (v := undef) (a' := ?_) #[true, true, true, true, true, true, true, true, true, true, true, true, true, true, true, true, true, true, true, true, true, true, true, true, true, true, true, true, true, true, true, true, false, false, false] rfl rfl (any_of HT_.out (by kernel_rfl)) (fun _ _ _ h => h) (Or.inr ⟨by rfl, rfl⟩) ?_ ?_
        rotate_left
        ·simp only [Act.put, List.setIfInBounds_toArray, List.set_cons_zero, List.set_cons_succ, i64_w, i32_w]
         rfl
        refine pure_ (i := 32) (N := some 82) (v := undef) (a' := ?_) #[true, true, true, true, true, true, true, true, true, true, true, true, true, true, true, true, true, true, true, true, true, true, true, true, true, true, true, true, true, true, true, true, true, false, false] rfl rfl (any_of HT_.out (by kernel_rfl)) (fun _ _ _ h => h) (Or.inr ⟨by rfl, rfl⟩) ?_ ?_
        rotate_left
        ·simp only [Act.put, List.setIfInBounds_toArray, List.set_cons_zero, List.set_cons_succ, i64_w, i32_w]
         rfl
        refine pure_ (i := 33) (N := some 83) (v := ?_) (a' := ?_) #[true, true, true, true, true, true, true, true, true, true, true, true, true, true, true, true, true, true, true, true, true, true, true, true, true, true, true, true, true, true, true, true, true, true, false] rfl rfl (any_of HT_.out (by kernel_rfl)) (fun _ _ _ h => h) (Or.inl ⟨by rfl, ?_⟩) ?_ ?_
        rotate_left
        ·intro w'
         go_simp
         with_reducible rfl
        rotate_left
        ·simp only [Act.put, List.setIfInBounds_toArray, List.set_cons_zero, List.set_cons_succ, i64_w, i32_w]
         rfl
        refine pure_ (i := 34) (N := some 2) (v := ?_) (a' := ?_) #[true, true, true, true, true, true, true, true, true, true, true, true, true, true, true, true, true, true, true, true, true, true, true, true, true, true, true, true, true, true, true, true, true, true, true] rfl rfl (any_of HT_.out (by kernel_rfl)) (fun _ _ _ h => h) (Or.inl ⟨by rfl, ?_⟩) ?_ ?_
        rotate_left
        ·intro w'
         go_simp
         with_reducible rfl
        rotate_left
        ·simp only [Act.put, List.setIfInBounds_toArray, List.set_cons_zero, List.set_cons_succ, i64_w, i32_w]
         rfl
        refine done_ (done_of HT_.out (by kernel_rfl)) ?_
        try go_wp2
        go_ret
        exact ⟨er_, B3_ HB.out GE352.out GE371.out GE372.out⟩
      ·rw [if_neg c31] at H
       have c31b0 : (t375 == (wrap64 (x5_1 + 1))) = false := beq_eq_false_iff_ne.mpr c31
       have c31b1 : (t375 != (wrap64 (x5_1 + 1))) = true := bne_iff_ne.mpr c31
       obtain rfl := Option.some.inj H
       obtain ⟨hcz95_0, hcz95_1, hcz95_2, hcz95_3, hfz95_0, hfz95_1, hfz95_2, hfz95_3⟩ := box4_ BK352.out
       try go_wp2_with (first | ((with_reducible refine gate_callee (f := 30) rfl ?_); refine goesL_ (some 45) rfl rfl Try.func30 (by kernel_rfl) rfl #[.slice A0 l0.length c0] rfl ma_ ?_; (with_reducible refine (spec_DrawEqualOptic.calls k1 _ _ l0 t359 t360 t361 t362 t365 t366 t367 t368 _ ?side1 ?side2 A26.out).mono ?_); (case side1 => exact C_ (Kd.C_below HR0.out HB.out)); (case side2 => exact HC0.out); rintro e w96 ⟨v363, v369, rfl, ho0, ho1, hb⟩; refine ⟨_, rfl, ?_⟩; have HO364 := Aside0.mk (Kd.N_lower (Kd.N_mono (ok' := fun k_ => some k_ ≠ (v369 : Value).ownBlock ∧ some k_ ≠ (.slice Ao9 t349.length co9 : Value).ownBlock ∧ k_ ≠ gb352) (Kd.R_N (Kd.R_bound ho0)) (fun k_ hk_ => ⟨hk_.1, (Kd.fresh' (Kd.N_lt (N_ HO_353003.out)) k_ hk_.2.1), (Kd.freshB (K_ BK352.out) k_ hk_.2.1)⟩)) (below_size (B1_ HB.out GE352.out))); have HO370 := Aside0.mk (Kd.N_lower (Kd.N_mono (ok' := fun k_ => some k_ ≠ (v363 : Value).ownBlock ∧ some k_ ≠ (.slice Ao9 t349.length co9 : Value).ownBlock ∧ k_ ≠ gb352) (Kd.R_N (Kd.R_bound ho1)) (fun k_ hk_ => ⟨hk_.1, (Kd.fresh' (Kd.N_lt (N_ HO_353003.out)) k_ hk_.2.1), (Kd.freshB (K_ BK352.out) k_ hk_.2.1)⟩)) (below_size (B1_ HB.out GE352.out))); replace HO_353003 := Aside0.mk (Kd.N_mono (Kd.N_told (Kd.N_told (Kd.N_old (N_ HO_353003.out) hb) (Kd.R_base ho0)) (Kd.R_base ho1)) (fun _ h_ => h_.1)); replace BK352 := Aside0.mk (blk_below (K_ BK352.out) hb); replace HB := Aside0.mk (below_step (B1_ HB.out GE352.out) hb); (try clear hb); (try clear hb2); (try clear hk); (try clear hi); (try clear ho0); (try clear ho1)) | ((with_reducible refine gate_dst (N := 7) rfl ?_); refine box_event ?hg (N := 7) ?hd (cs := #[.int .i64 0, .string (⟨#[]⟩ : ByteArray), .int .i64 0, .slice none 0 0]) (t := 29) ?hr ?_; (case hd => rfl); (case hg => rfl); (case hr => first | (go_simp; done) | (go_simp; rfl)); intro gb371 hg w97 hbox hb; replace HO_353003 := Aside0.mk (Kd.N_below (Kd.N_elderB (N_ HO_353003.out) gb371 (Nat.le_of_eq hg.symm)) hb); replace HO364 := Aside0.mk (Kd.N_below (Kd.N_elderB (N_ HO364.out) gb371 (Nat.le_of_eq hg.symm)) hb); replace HO370 := Aside0.mk (Kd.N_below (Kd.N_elderB (N_ HO370.out) gb371 (Nat.le_of_eq hg.symm)) hb); have BK371 := Aside0.mk (hbox); have GW371 := Aside0.mk ((by rw [hg]; exact (below_size (B1_ HB.out GE352.out)) : w.heap.size ≤ gb371)); have GE371 := Aside0.mk ((by rw [hg]; exact (below_size (B1_ HB.out GE352.out)) : w.heap.size ≤ gb371)); replace HB := Aside0.mk (below_step (B1_ HB.out GE352.out) hb); have NB352_371 := Aside0.mk ((by rw [hg]; exact Nat.ne_of_lt (blk_lt (K_ BK352.out)) : gb352 ≠ gb371)); have NB371_352 := Aside0.mk ((by rw [hg]; exact Nat.ne_of_gt (blk_lt (K_ BK352.out)) : gb371 ≠ gb352)); replace BK352 := Aside0.mk (blk_below (K_ BK352.out) hb); clear hb hbox hg) | ((with_reducible refine gate_dst (N := 8) rfl ?_); refine box_event ?hg (N := 8) ?hd (cs := #[.int .i64 0, .string (⟨#[]⟩ : ByteArray), .int .i64 0, .slice none 0 0]) (t := 29) ?hr ?_; (case hd => rfl); (case hg => rfl); (case hr => first | (go_simp; done) | (go_simp; rfl)); intro gb372 hg w98 hbox hb; replace HO_353003 := Aside0.mk (Kd.N_below (Kd.N_elderB (N_ HO_353003.out) gb372 (Nat.le_of_eq hg.symm)) hb); replace HO364 := Aside0.mk (Kd.N_below (Kd.N_elderB (N_ HO364.out) gb372 (Nat.le_of_eq hg.symm)) hb); replace HO370 := Aside0.mk (Kd.N_below (Kd.N_elderB (N_ HO370.out) gb372 (Nat.le_of_eq hg.symm)) hb); have BK372 := Aside0.mk (hbox); have GW372 := Aside0.mk ((by rw [hg]; exact (below_size (B2_ HB.out GE352.out GE371.out)) : w.heap.size ≤ gb372)); have GE372 := Aside0.mk ((by rw [hg]; exact (below_size (B2_ HB.out GE352.out GE371.out)) : w.heap.size ≤ gb372)); replace HB := Aside0.mk (below_step (B2_ HB.out GE352.out GE371.out) hb); have NB352_372 := Aside0.mk ((by rw [hg]; exact Nat.ne_of_lt (blk_lt (K_ BK352.out)) : gb352 ≠ gb372)); have NB372_352 := Aside0.mk ((by rw [hg]; exact Nat.ne_of_gt (blk_lt (K_ BK352.out)) : gb372 ≠ gb352)); replace BK352 := Aside0.mk (blk_below (K_ BK352.out) hb); have NB371_372 := Aside0.mk ((by rw [hg]; exact Nat.ne_of_lt (blk_lt (K_ BK371.out)) : gb371 ≠ gb372)); have NB372_371 := Aside0.mk ((by rw [hg]; exact Nat.ne_of_gt (blk_lt (K_ BK371.out)) : gb372 ≠ gb371)); replace BK371 := Aside0.mk (blk_below (K_ BK371.out) hb); clear hb hbox hg; have hnb99 := NB371_352.out; have hnc99 := NB352_371.out; have hnb100 := NB371_372.out; have hnc100 := NB372_371.out; obtain ⟨hcz101_0, hcz101_1, hcz101_2, hcz101_3, hfz101_0, hfz101_1, hfz101_2, hfz101_3⟩ := box4_ BK371.out; obtain ⟨Ao102, co102, eo102⟩ := Kd.N_slice HO364.out; subst eo102; have hnb103 := NB372_352.out; have hnc103 := NB352_372.out; obtain ⟨hcz104_0, hcz104_1, hcz104_2, hcz104_3, hfz104_0, hfz104_1, hfz104_2, hfz104_3⟩ := box4_ BK372.out; obtain ⟨Ao105, co105, eo105⟩ := Kd.N_slice HO370.out; subst eo105) | ((with_reducible refine gate_callee (f := 31) rfl ?_); refine goesL_ (some 49) rfl rfl Try.func31 (by kernel_rfl) rfl #[.slice A0 l0.length c0] rfl ma_ ?_; (with_reducible refine (spec_DrawArityOf.calls k1 _ _ l0 t373 _ ?side1 ?side2 A27.out).mono ?_); (case side1 => exact Kd.C_below HR0.out (B3_ HB.out GE352.out GE371.out GE372.out)); (case side2 => exact HC0.out); rintro e w106 ⟨rfl, hb⟩; refine ⟨_, rfl, ?_⟩; replace HO_353003 := Aside0.mk (Kd.N_below (by (with_reducible repeat (first | apply Kd.N_alloc | apply Kd.N_drewN | apply Kd.N_drew)); exact (Kd.N_mono (Kd.N_mono (Kd.N_far (p := ⟨gb372, 3, none⟩) (Kd.N_far (p := ⟨gb372, 2, none⟩) (Kd.N_far (p := ⟨gb372, 1, none⟩) (Kd.N_far (p := ⟨gb372, 0, none⟩) (Kd.N_far (p := ⟨gb371, 3, none⟩) (Kd.N_far (p := ⟨gb371, 2, none⟩) (Kd.N_far (p := ⟨gb371, 1, none⟩) (Kd.N_far (p := ⟨gb371, 0, none⟩) (Kd.N_mono (Kd.N_mono HO_353003.out (fun k_ hk => (⟨hk, hk.1.2⟩ : _ ∧ k_ ≠ gb371))) (fun k_ hk => (⟨hk, hk.1.2⟩ : _ ∧ k_ ≠ gb372))) (fun _ hk => hk.1.2) (.int .i64 t359)) (fun _ hk => hk.1.2) (.string t360)) (fun _ hk => hk.1.2) (.int .i64 t361)) (fun _ hk => hk.1.2) (.slice Ao102 t362.length co102)) (fun _ hk => hk.2) (.int .i64 t365)) (fun _ hk => hk.2) (.string t366)) (fun _ hk => hk.2) (.int .i64 t367)) (fun _ hk => hk.2) (.slice Ao105 t368.length co105)) (fun _ h_ => h_.1)) (fun _ h_ => h_.1))) hb); replace HO364 := Aside0.mk (Kd.N_below (by (with_reducible repeat (first | apply Kd.N_alloc | apply Kd.N_drewN | apply Kd.N_drew)); exact (Kd.N_mono (Kd.N_mono (Kd.N_far (p := ⟨gb372, 3, none⟩) (Kd.N_far (p := ⟨gb372, 2, none⟩) (Kd.N_far (p := ⟨gb372, 1, none⟩) (Kd.N_far (p := ⟨gb372, 0, none⟩) (Kd.N_far (p := ⟨gb371, 3, none⟩) (Kd.N_far (p := ⟨gb371, 2, none⟩) (Kd.N_far (p := ⟨gb371, 1, none⟩) (Kd.N_far (p := ⟨gb371, 0, none⟩) (Kd.N_mono (Kd.N_mono HO364.out (fun k_ hk => (⟨hk, hk.1.2⟩ : _ ∧ k_ ≠ gb371))) (fun k_ hk => (⟨hk, hk.1.2⟩ : _ ∧ k_ ≠ gb372))) (fun _ hk => hk.1.2) (.int .i64 t359)) (fun _ hk => hk.1.2) (.string t360)) (fun _ hk => hk.1.2) (.int .i64 t361)) (fun _ hk => hk.1.2) (.slice Ao102 t362.length co102)) (fun _ hk => hk.2) (.int .i64 t365)) (fun _ hk => hk.2) (.string t366)) (fun _ hk => hk.2) (.int .i64 t367)) (fun _ hk => hk.2) (.slice Ao105 t368.length co105)) (fun _ h_ => h_.1)) (fun _ h_ => h_.1))) hb); replace HO370 := Aside0.mk (Kd.N_below (by (with_reducible repeat (first | apply Kd.N_alloc | apply Kd.N_drewN | apply Kd.N_drew)); exact (Kd.N_mono (Kd.N_mono (Kd.N_far (p := ⟨gb372, 3, none⟩) (Kd.N_far (p := ⟨gb372, 2, none⟩) (Kd.N_far (p := ⟨gb372, 1, none⟩) (Kd.N_far (p := ⟨gb372, 0, none⟩) (Kd.N_far (p := ⟨gb371, 3, none⟩) (Kd.N_far (p := ⟨gb371, 2, none⟩) (Kd.N_far (p := ⟨gb371, 1, none⟩) (Kd.N_far (p := ⟨gb371, 0, none⟩) (Kd.N_mono (Kd.N_mono HO370.out (fun k_ hk => (⟨hk, hk.1.2⟩ : _ ∧ k_ ≠ gb371))) (fun k_ hk => (⟨hk, hk.1.2⟩ : _ ∧ k_ ≠ gb372))) (fun _ hk => hk.1.2) (.int .i64 t359)) (fun _ hk => hk.1.2) (.string t360)) (fun _ hk => hk.1.2) (.int .i64 t361)) (fun _ hk => hk.1.2) (.slice Ao102 t362.length co102)) (fun _ hk => hk.2) (.int .i64 t365)) (fun _ hk => hk.2) (.string t366)) (fun _ hk => hk.2) (.int .i64 t367)) (fun _ hk => hk.2) (.slice Ao105 t368.length co105)) (fun _ h_ => h_.1)) (fun _ h_ => h_.1))) hb); replace BK352 := Aside0.mk (blk_below (g := gb352) (o := .cells #[.int .i64 t346, .string t347, .int .i64 t348, .slice Ao9 t349.length co9] 29 (0, 0)) (by (with_reducible repeat (first | refine blk_drewN ?_ _ | refine blk_drew ?_ | refine blk_alloc ?_ _)); refine blk_far ?_ NB352_372.out _; (with_reducible repeat (first | refine blk_drewN ?_ _ | refine blk_drew ?_ | refine blk_alloc ?_ _)); refine blk_far ?_ NB352_372.out _; (with_reducible repeat (first | refine blk_drewN ?_ _ | refine blk_drew ?_ | refine blk_alloc ?_ _)); refine blk_far ?_ NB352_372.out _; (with_reducible repeat (first | refine blk_drewN ?_ _ | refine blk_drew ?_ | refine blk_alloc ?_ _)); refine blk_far ?_ NB352_372.out _; (with_reducible repeat (first | refine blk_drewN ?_ _ | refine blk_drew ?_ | refine blk_alloc ?_ _)); refine blk_far ?_ NB352_371.out _; (with_reducible repeat (first | refine blk_drewN ?_ _ | refine blk_drew ?_ | refine blk_alloc ?_ _)); refine blk_far ?_ NB352_371.out _; (with_reducible repeat (first | refine blk_drewN ?_ _ | refine blk_drew ?_ | refine blk_alloc ?_ _)); refine blk_far ?_ NB352_371.out _; (with_reducible repeat (first | refine blk_drewN ?_ _ | refine blk_drew ?_ | refine blk_alloc ?_ _)); refine blk_far ?_ NB352_371.out _; (with_reducible repeat (first | refine blk_drewN ?_ _ | refine blk_drew ?_ | refine blk_alloc ?_ _)); exact BK352.out) hb); replace BK371 := Aside0.mk (blk_below (g := gb371) (o := .cells #[.int .i64 t359, .string t360, .int .i64 t361, .slice Ao102 t362.length co102] 29 (0, 0)) (by (with_reducible repeat (first | refine blk_drewN ?_ _ | refine blk_drew ?_ | refine blk_alloc ?_ _)); refine blk_far ?_ NB371_372.out _; (with_reducible repeat (first | refine blk_drewN ?_ _ | refine blk_drew ?_ | refine blk_alloc ?_ _)); refine blk_far ?_ NB371_372.out _; (with_reducible repeat (first | refine blk_drewN ?_ _ | refine blk_drew ?_ | refine blk_alloc ?_ _)); refine blk_far ?_ NB371_372.out _; (with_reducible repeat (first | refine blk_drewN ?_ _ | refine blk_drew ?_ | refine blk_alloc ?_ _)); refine blk_far ?_ NB371_372.out _; (with_reducible repeat (first | refine blk_drewN ?_ _ | refine blk_drew ?_ | refine blk_alloc ?_ _)); refine blk_put (cs := #[.int .i64 t359, .string t360, .int .i64 t361, .slice none 0 0]) ?_ 3 _ rfl; (with_reducible repeat (first | refine blk_drewN ?_ _ | refine blk_drew ?_ | refine blk_alloc ?_ _)); refine blk_put (cs := #[.int .i64 t359, .string t360, .int .i64 0, .slice none 0 0]) ?_ 2 _ rfl; (with_reducible repeat (first | refine blk_drewN ?_ _ | refine blk_drew ?_ | refine blk_alloc ?_ _)); refine blk_put (cs := #[.int .i64 t359, .string (⟨#[]⟩ : ByteArray), .int .i64 0, .slice none 0 0]) ?_ 1 _ rfl; (with_reducible repeat (first | refine blk_drewN ?_ _ | refine blk_drew ?_ | refine blk_alloc ?_ _)); refine blk_put (cs := #[.int .i64 0, .string (⟨#[]⟩ : ByteArray), .int .i64 0, .slice none 0 0]) ?_ 0 _ rfl; (with_reducible repeat (first | refine blk_drewN ?_ _ | refine blk_drew ?_ | refine blk_alloc ?_ _)); exact BK371.out) hb); replace BK372 := Aside0.mk (blk_below (g := gb372) (o := .cells #[.int .i64 t365, .string t366, .int .i64 t367, .slice Ao105 t368.length co105] 29 (0, 0)) (by (with_reducible repeat (first | refine blk_drewN ?_ _ | refine blk_drew ?_ | refine blk_alloc ?_ _)); refine blk_put (cs := #[.int .i64 t365, .string t366, .int .i64 t367, .slice none 0 0]) ?_ 3 _ rfl; (with_reducible repeat (first | refine blk_drewN ?_ _ | refine blk_drew ?_ | refine blk_alloc ?_ _)); refine blk_put (cs := #[.int .i64 t365, .string t366, .int .i64 0, .slice none 0 0]) ?_ 2 _ rfl; (with_reducible repeat (first | refine blk_drewN ?_ _ | refine blk_drew ?_ | refine blk_alloc ?_ _)); refine blk_put (cs := #[.int .i64 t365, .string (⟨#[]⟩ : ByteArray), .int .i64 0, .slice none 0 0]) ?_ 1 _ rfl; (with_reducible repeat (first | refine blk_drewN ?_ _ | refine blk_drew ?_ | refine blk_alloc ?_ _)); refine blk_put (cs := #[.int .i64 0, .string (⟨#[]⟩ : ByteArray), .int .i64 0, .slice none 0 0]) ?_ 0 _ rfl; (with_reducible repeat (first | refine blk_drewN ?_ _ | refine blk_drew ?_ | refine blk_alloc ?_ _)); refine blk_far ?_ NB372_371.out _; (with_reducible repeat (first | refine blk_drewN ?_ _ | refine blk_drew ?_ | refine blk_alloc ?_ _)); refine blk_far ?_ NB372_371.out _; (with_reducible repeat (first | refine blk_drewN ?_ _ | refine blk_drew ?_ | refine blk_alloc ?_ _)); refine blk_far ?_ NB372_371.out _; (with_reducible repeat (first | refine blk_drewN ?_ _ | refine blk_drew ?_ | refine blk_alloc ?_ _)); refine blk_far ?_ NB372_371.out _; (with_reducible repeat (first | refine blk_drewN ?_ _ | refine blk_drew ?_ | refine blk_alloc ?_ _)); exact BK372.out) hb); replace HB := Aside0.mk (below_step (B3_ HB.out GE352.out GE371.out GE372.out) hb); (try clear hb); (try clear hb2); (try clear hk); (try clear hi)))
       replace HO_353003 := Aside0.mk (Kd.N_drew HO_353003.out)
       replace HO364 := Aside0.mk (Kd.N_drew HO364.out)
       replace HO370 := Aside0.mk (Kd.N_drew HO370.out)
       replace BK352 := Aside0.mk (blk_drew BK352.out)
       replace BK371 := Aside0.mk (blk_drew BK371.out)
       replace BK372 := Aside0.mk (blk_drew BK372.out)
       replace HB := Aside0.mk (below_drew1 HB.out)
       refine start_ (n := 35) (S := fun w' => w'.cell? ⟨gb352, 0, none⟩ = some (.int .i64 t346) ∧ w'.cell? ⟨gb352, 1, none⟩ = some (.string t347) ∧ w'.cell? ⟨gb352, 2, none⟩ = some (.int .i64 t348) ∧ w'.cell? ⟨gb352, 3, none⟩ = some (.slice Ao9 t349.length co9)) (ds := []) #[false, false, false, false, false, false, false, false, false, false, false, false, false, false, false, false, false, false, false, false, false, false, false, false, false, false, false, false, false, false, false, false, false, false, false] (by kernel_rfl) rfl rfl ⟨(blk_cell BK352.out 0).trans rfl, (blk_cell BK352.out 1).trans rfl, (blk_cell BK352.out 2).trans rfl, (blk_cell BK352.out 3).trans rfl⟩ (fun hHeld => ?_); refine with_tabW laws_FnOptics.tab14 laws_FnOptics.bits14 (fun HT_ HW_ => ?_)
       generalize w106.drew = w107 at HO_353003 HO364 HO370 BK352 BK371 BK372 HB hHeld ⊢
       refine pure_ (i := 2) (N := some 52) (v := ?_) (a' := ?_) #[false, false, true, false, false, false, false, false, false, false, false, false, false, false, false, false, false, false, false, false, false, false, false, false, false, false, false, false, false, false, false, false, false, false, false] rfl rfl (any_of HT_.out (by kernel_rfl)) (fun _ _ _ h => h) (Or.inl ⟨by rfl, ?_⟩) ?_ ?_
       rotate_left
       ·intro w'
        go_simp
        with_reducible rfl
       rotate_left
       ·simp only [Act.put, List.setIfInBounds_toArray, List.set_cons_zero, List.set_cons_succ, i64_w, i32_w]
        rfl
       refine take_ (i := 0) (N := some 50) (v := ?_) (a' := ?_) #[true, false, true, false, false, false, false, false, false, false, false, false, false, false, false, false, false, false, false, false, false, false, false, false, false, false, false, false, false, false, false, false, false, false, false] rfl rfl (take_ofW HT_.out HW_.out (by kernel_rfl)) (fun _ _ _ h => h) (Or.inl ⟨by rfl, ?_⟩) hHeld ?_ ?_
       rotate_left
       ·rintro w' ⟨s0, s1, s2, s3⟩
        go_simp
        with_reducible rfl
       rotate_left
       ·simp only [Act.put, List.setIfInBounds_toArray, List.set_cons_zero, List.set_cons_succ, i64_w, i32_w]
        rfl
       refine one_ (i := 1) (N := some 51) #[true, true, true, false, false, false, false, false, false, false, false, false, false, false, false, false, false, false, false, false, false, false, false, false, false, false, false, false, false, false, false, false, false, false, false] rfl rfl (one_of HT_.out (by kernel_rfl)) (by decide) (fun K hK => ?_)
       refine goes_ Try.func16 (by kernel_rfl) rfl #[.agg #[.int .i64 t346, .string t347, .int .i64 t348, .slice Ao9 t349.length co9]] (by rfl) rfl rfl ma_ ?_
       with_reducible refine (impl_SizeOf.calls k1 t346 t347 t348 _ _ t349 t374 _ ?side1 ?side2 A28.out).mono ?_
       (case side1 => exact C_ (Kd.N_reads' HO_353003.out).2.2)
       (case side2 => exact (Kd.N_reads' HO_353003.out).2.1)
       rintro e w108 ⟨rfl, hb⟩
       refine ⟨_, rfl, ?_⟩
       replace HO_353003 := Aside0.mk (Kd.N_below (N_ HO_353003.out) hb)
       replace HO364 := Aside0.mk (Kd.N_below (N_ HO364.out) hb)
       replace HO370 := Aside0.mk (Kd.N_below (N_ HO370.out) hb)
       replace BK352 := Aside0.mk (blk_below (K_ BK352.out) hb)
       replace BK371 := Aside0.mk (blk_below (K_ BK371.out) hb)
       replace BK372 := Aside0.mk (blk_below (K_ BK372.out) hb)
       replace HB := Aside0.mk (below_step (B3_ HB.out GE352.out GE371.out GE372.out) hb)
       (try clear hb)
       (try clear hb2)
       (try clear hk)
       (try clear hi)
       refine hK.out _ _ ⟨(blk_cell BK352.out 0).trans rfl, (blk_cell BK352.out 1).trans rfl, (blk_cell BK352.out 2).trans rfl, (blk_cell BK352.out 3).trans rfl⟩ (fun hHeld => ?_)
       clear hK K
       refine norm_ (a' := ?_) ?_ ?_
       rotate_left
       ·show Act.put _ (some 51) _ = _
        simp only [Act.put, List.setIfInBounds_toArray, List.set_cons_zero, List.set_cons_succ, i64_w, i32_w]
        rfl
       refine pure_ (i := 3) (N := some 53) (v := ?_) (a' := ?_) #[true, true, true, true, false, false, false, false, false, false, false, false, false, false, false, false, false, false, false, false, false, false, false, false, false, false, false, false, false, false, false, false, false, false, false] rfl rfl (any_of HT_.out (by kernel_rfl)) (fun _ _ _ h => h) (Or.inl ⟨by rfl, ?_⟩) ?_ ?_
       rotate_left
       ·intro w'
        go_simp
        with_reducible rfl
       rotate_left
       ·simp only [Act.put, List.setIfInBounds_toArray, List.set_cons_zero, List.set_cons_succ, i64_w, i32_w]
        rfl
       refine pure_ (i := 4) (N := some 54) (v := ?_) (a' := ?_) #[true, true, true, true, true, false, false, false, false, false, false, false, false, false, false, false, false, false, false, false, false, false, false, false, false, false, false, false, false, false, false, false, false, false, false] rfl rfl (any_of HT_.out (by kernel_rfl)) (fun _ _ _ h => h) (Or.inl ⟨by rfl, ?_⟩) ?_ ?_
       rotate_left
       ·intro w'
        go_simp
        with_reducible rfl
       rotate_left
       ·simp only [Act.put, List.setIfInBounds_toArray, List.set_cons_zero, List.set_cons_succ, i64_w, i32_w]
        rfl
       refine pure_ (i := 7) (N := some 57) (v := ?_) (a' := ?_) #[true, true, true, true, true, false, false, true, false, false, false, false, false, false, false, false, false, false, false, false, false, false, false, false, false, false, false, false, false, false, false, false, false, false, false] rfl rfl (any_of HT_.out (by kernel_rfl)) (fun _ _ _ h => h) (Or.inl ⟨by rfl, ?_⟩) ?_ ?_
       rotate_left
       ·intro w'
        go_simp
        with_reducible rfl
       rotate_left
       ·simp only [Act.put, List.setIfInBounds_toArray, List.set_cons_zero, List.set_cons_succ, i64_w, i32_w]
        rfl
       refine pure_ (i := 8) (N := some 58) (v := ?_) (a' := ?_) #[true, true, true, true, true, false, false, true, true, false, false, false, false, false, false, false, false, false, false, false, false, false, false, false, false, false, false, false, false, false, false, false, false, false, false] rfl rfl (any_of HT_.out (by kernel_rfl)) (fun _ _ _ h => h) (Or.inl ⟨by rfl, ?_⟩) ?_ ?_
       rotate_left
       ·intro w'
        go_simp
        with_reducible rfl
       rotate_left
       ·simp only [Act.put, List.setIfInBounds_toArray, List.set_cons_zero, List.set_cons_succ, i64_w, i32_w]
        rfl
       refine take_ (i := 5) (N := some 55) (v := ?_) (a' := ?_) #[true, true, true, true, true, true, false, true, true, false, false, false, false, false, false, false, false, false, false, false, false, false, false, false, false, false, false, false, false, false, false, false, false, false, false] rfl rfl (take_ofW HT_.out HW_.out (by kernel_rfl)) (fun _ _ _ h => h) (Or.inl ⟨by rfl, ?_⟩) hHeld ?_ ?_
       rotate_left
       ·rintro w' ⟨s0, s1, s2, s3⟩
        go_simp
        with_reducible rfl
       rotate_left
       ·simp only [Act.put, List.setIfInBounds_toArray, List.set_cons_zero, List.set_cons_succ, i64_w, i32_w]
        rfl
       refine one_ (i := 6) (N := some 56) #[true, true, true, true, true, true, true, true, true, false, false, false, false, false, false, false, false, false, false, false, false, false, false, false, false, false, false, false, false, false, false, false, false, false, false] rfl rfl (one_of HT_.out (by kernel_rfl)) (by decide) (fun K hK => ?_)
       refine goes_ Try.func19 (by kernel_rfl) rfl #[.agg #[.int .i64 t346, .string t347, .int .i64 t348, .slice Ao9 t349.length co9]] (by rfl) rfl rfl ma_ ?_
       with_reducible refine (impl_DepthOf.calls k1 t346 t347 t348 _ _ t349 t375 _ ?side1 ?side2 A30.out).mono ?_
       (case side1 => exact C_ (Kd.N_reads' HO_353003.out).2.2)
       (case side2 => exact (Kd.N_reads' HO_353003.out).2.1)
       rintro e w109 ⟨rfl, hb⟩
       refine ⟨_, rfl, ?_⟩
       replace HO_353003 := Aside0.mk (Kd.N_below (N_ HO_353003.out) hb)
       replace HO364 := Aside0.mk (Kd.N_below (N_ HO364.out) hb)
       replace HO370 := Aside0.mk (Kd.N_below (N_ HO370.out) hb)
       replace BK352 := Aside0.mk (blk_below (K_ BK352.out) hb)
       replace BK371 := Aside0.mk (blk_below (K_ BK371.out) hb)
       replace BK372 := Aside0.mk (blk_below (K_ BK372.out) hb)
       replace HB := Aside0.mk (below_step (B3_ HB.out GE352.out GE371.out GE372.out) hb)
       (try clear hb)
       (try clear hb2)
       (try clear hk)
       (try clear hi)
       refine hK.out _ _ ⟨(blk_cell BK352.out 0).trans rfl, (blk_cell BK352.out 1).trans rfl, (blk_cell BK352.out 2).trans rfl, (blk_cell BK352.out 3).trans rfl⟩ (fun hHeld => ?_)
       clear hK K
       refine norm_ (a' := ?_) ?_ ?_
       rotate_left
       ·show Act.put _ (some 56) _ = _
        simp only [Act.put, List.setIfInBounds_toArray, List.set_cons_zero, List.set_cons_succ, i64_w, i32_w]
        rfl
       refine pure_ (i := 9) (N := some 59) (v := ?_) (a' := ?_) #[true, true, true, true, true, true, true, true, true, true, false, false, false, false, false, false, false, false, false, false, false, false, false, false, false, false, false, false, false, false, false, false, false, false, false] rfl rfl (any_of HT_.out (by kernel_rfl)) (fun _ _ _ h => h) (Or.inl ⟨by rfl, ?_⟩) ?_ ?_
       rotate_left
       ·intro w'
        go_simp
        with_reducible rfl
       rotate_left
       ·simp only [Act.put, List.setIfInBounds_toArray, List.set_cons_zero, List.set_cons_succ, i64_w, i32_w]
        rfl
       refine pure_ (i := 10) (N := some 60) (v := ?_) (a' := ?_) #[true, true, true, true, true, true, true, true, true, true, true, false, false, false, false, false, false, false, false, false, false, false, false, false, false, false, false, false, false, false, false, false, false, false, false] rfl rfl (any_of HT_.out (by kernel_rfl)) (fun _ _ _ h => h) (Or.inl ⟨by rfl, ?_⟩) ?_ ?_
       rotate_left
       ·intro w'
        go_simp
        with_reducible rfl
       rotate_left
       ·simp only [Act.put, List.setIfInBounds_toArray, List.set_cons_zero, List.set_cons_succ, i64_w, i32_w]
        rfl
       refine pure_ (i := 11) (N := some 61) (v := ?_) (a' := ?_) #[true, true, true, true, true, true, true, true, true, true, true, true, false, false, false, false, false, false, false, false, false, false, false, false, false, false, false, false, false, false, false, false, false, false, false] rfl rfl (any_of HT_.out (by kernel_rfl)) (fun _ _ _ h => h) (Or.inl ⟨by rfl, ?_⟩) ?_ ?_
       rotate_left
       ·intro w'
        go_simp
        with_reducible rfl
       rotate_left
       ·simp only [Act.put, List.setIfInBounds_toArray, List.set_cons_zero, List.set_cons_succ, i64_w, i32_w]
        rfl
       refine pure_ (i := 12) (N := some 62) (v := undef) (a' := ?_) #[true, true, true, true, true, true, true, true, true, true, true, true, true, false, false, false, false, false, false, false, false, false, false, false, false, false, false, false, false, false, false, false, false, false, false] rfl rfl (any_of HT_.out (by kernel_rfl)) (fun _ _ _ h => h) (Or.inr ⟨by rfl, rfl⟩) ?_ ?_
       rotate_left
       ·simp only [Act.put, List.setIfInBounds_toArray, List.set_cons_zero, List.set_cons_succ, i64_w, i32_w]
        rfl
       refine pure_ (i := 13) (N := some 63) (v := undef) (a' := ?_) #[true, true, true, true, true, true, true, true, true, true, true, true, true, true, false, false, false, false, false, false, false, false, false, false, false, false, false, false, false, false, false, false, false, false, false] rfl rfl (any_of HT_.out (by kernel_rfl)) (fun _ _ _ h => h) (Or.inr ⟨by rfl, rfl⟩) ?_ ?_
       rotate_left
       ·simp only [Act.put, List.setIfInBounds_toArray, List.set_cons_zero, List.set_cons_succ, i64_w, i32_w]
        rfl
       refine pure_ (i := 14) (N := some 64) (v := undef) (a' := ?_) #[true, true, true, true, true, true, true, true, true, true, true, true, true, true, true, false, false, false, false, false, false, false, false, false, false, false, false, false, false, false, false, false, false, false, false] rfl rfl (any_of HT_.out (by kernel_rfl)) (fun _ _ _ h => h) (Or.inr ⟨by rfl, rfl⟩) ?_ ?_
       rotate_left
       ·simp only [Act.put, List.setIfInBounds_toArray, List.set_cons_zero, List.set_cons_succ, i64_w, i32_w]
        rfl
       refine pure_ (i := 15) (N := some 65) (v := undef) (a' := ?_) #[true, true, true, true, true, true, true, true, true, true, true, true, true, true, true, true, false, false, false, false, false, false, false, false, false, false, false, false, false, false, false, false, false, false, false] rfl rfl (any_of HT_.out (by kernel_rfl)) (fun _ _ _ h => h) (Or.inr ⟨by rfl, rfl⟩) ?_ ?_
       rotate_left
       ·simp only [Act.put, List.setIfInBounds_toArray, List.set_cons_zero, List.set_cons_succ, i64_w, i32_w]
        rfl
       refine pure_ (i := 16) (N := some 66) (v := undef) (a' := ?_) #[true, true, true, true, true, true, true, true, true, true, true, true, true, true, true, true, true, false, false, false, false, false, false, false, false, false, false, false, false, false, false, false, false, false, false] rfl rfl (any_of HT_.out (by kernel_rfl)) (fun _ _ _ h => h) (Or.inr ⟨by rfl, rfl⟩) ?_ ?_
       rotate_left
       ·simp only [Act.put, List.setIfInBounds_toArray, List.set_cons_zero, List.set_cons_succ, i64_w, i32_w]
        rfl
       refine pure_ (i := 17) (N := some 67) (v := ?_) (a' := ?_) #[true, true, true, true, true, true, true, true, true, true, true, true, true, true, true, true, true, true, false, false, false, false, false, false, false, false, false, false, false, false, false, false, false, false, false] rfl rfl (any_of HT_.out (by kernel_rfl)) (fun _ _ _ h => h) (Or.inl ⟨by rfl, ?_⟩) ?_ ?_
       rotate_left
       ·intro w'
        go_simp
        with_reducible rfl
       rotate_left
       ·simp only [Act.put, List.setIfInBounds_toArray, List.set_cons_zero, List.set_cons_succ, i64_w, i32_w]
        rfl
       refine pure_ (i := 18) (N := some 68) (v := ?_) (a' := ?_) #[true, true, true, true, true, true, true, true, true, true, true, true, true, true, true, true, true, true, true, false, false, false, false, false, false, false, false, false, false, false, false, false, false, false, false] rfl rfl (any_of HT_.out (by kernel_rfl)) (fun _ _ _ h => h) (Or.inl ⟨by rfl, ?_⟩) ?_ ?_
       rotate_left
       ·intro w'
        go_simp
        with_reducible rfl
       rotate_left
       ·simp only [Act.put, List.setIfInBounds_toArray, List.set_cons_zero, List.set_cons_succ, i64_w, i32_w]
        rfl
       refine pure_ (i := 19) (N := some 69) (v := undef) (a' := ?_) #[true, true, true, true, true, true, true, true, true, true, true, true, true, true, true, true, true, true, true, true, false, false, false, false, false, false, false, false, false, false, false, false, false, false, false] rfl rfl (any_of HT_.out (by kernel_rfl)) (fun _ _ _ h => h) (Or.inr ⟨by rfl, rfl⟩) ?_ ?_
       rotate_left
       ·simp only [Act.put, List.setIfInBounds_toArray, List.set_cons_zero, List.set_cons_succ, i64_w, i32_w]
        rfl
       refine pure_ (i := 20) (N := some 70) (v := undef) (a' := ?_) #[true, true, true, true, true, true, true, true, true, true, true, true, true, true, true, true, true, true, true, true, true, false, false, false, false, false, false, false, false, false, false, false, false, false, false] rfl rfl (any_of HT_.out (by kernel_rfl)) (fun _ _ _ h => h) (Or.inr ⟨by rfl, rfl⟩) ?_ ?_
       rotate_left
       ·simp only [Act.put, List.setIfInBounds_toArray, List.set_cons_zero, List.set_cons_succ, i64_w, i32_w]
        rfl
       refine pure_ (i := 21) (N := some 71) (v := undef) (a' := ?_) #[true, true, true, true, true, true, true, true, true, true, true, true, true, true, true, true, true, true, true, true, true, true, false, false, false, false, false, false, false, false, false, false, false, false, false] rfl rfl (any_of HT_.out (by kernel_rfl)) (fun _ _ _ h => h) (Or.inr ⟨by rfl, rfl⟩) ?_ ?_
       rotate_left
       ·simp only [Act.put, List.setIfInBounds_toArray, List.set_cons_zero, List.set_cons_succ, i64_w, i32_w]
        rfl
       refine pure_ (i := 22) (N := some 72) (v := undef) (a' := ?_) #[true, true, true, true, true, true, true, true, true, true, true, true, true, true, true, true, true, true, true, true, true, true, true, false, false, false, false, false, false, false, false, false, false, false, false] rfl rfl (any_of HT_.out (by kernel_rfl)) (fun _ _ _ h => h) (Or.inr ⟨by rfl, rfl⟩) ?_ ?_
       rotate_left
       ·simp only [Act.put, List.setIfInBounds_toArray, List.set_cons_zero, List.set_cons_succ, i64_w, i32_w]
        rfl
       refine pure_ (i := 23) (N := some 73) (v := undef) (a' := ?_) #[true, true, true, true, true, true, true, true, true, true, true, true, true, true, true, true, true, true, true, true, true, true, true, true, false, false, false, false, false, false, false, false, false, false, false] rfl rfl (any_of HT_.out (by kernel_rfl)) (fun _ _ _ h => h) (Or.inr ⟨by rfl, rfl⟩) ?_ ?_
       rotate_left
       ·simp only [Act.put, List.setIfInBounds_toArray, List.set_cons_zero, List.set_cons_succ, i64_w, i32_w]
        rfl
       refine pure_ (i := 24) (N := some 74) (v := undef) (a' := ?_) #[true, true, true, true, true, true, true, true, true, true, true, true, true, true, true, true, true, true, true, true, true, true, true, true, true, false, false, false, false, false, false, false, false, false, false] rfl rfl (any_of HT_.out (by kernel_rfl)) (fun _ _ _ h => h) (Or.inr ⟨by rfl, rfl⟩) ?_ ?_
       rotate_left
       ·simp only [Act.put, List.setIfInBounds_toArray, List.set_cons_zero, List.set_cons_succ, i64_w, i32_w]
        rfl
       refine pure_ (i := 25) (N := some 75) (v := undef) (a' := ?_) #[true, true, true, true, true, true, true, true, true, true, true, true, true, true, true, true, true, true, true, true, true, true, true, true, true, true, false, false, false, false, false, false, false, false, false] rfl rfl (any_of HT_.out (by kernel_rfl)) (fun _ _ _ h => h) (Or.inr ⟨by rfl, rfl⟩) ?_ ?_
       rotate_left
       ·simp only [Act.put, List.setIfInBounds_toArray, List.set_cons_zero, List.set_cons_succ, i64_w, i32_w]
        rfl
       refine pure_ (i := 26) (N := some 76) (v := ?_) (a' := ?_) #[true, true, true, true, true, true, true, true, true, true, true, true, true, true, true, true, true, true, true, true, true, true, true, true, true, true, true, false, false, false, false, false, false, false, false] rfl rfl (any_of HT_.out (by kernel_rfl)) (fun _ _ _ h => h) (Or.inl ⟨by rfl, ?_⟩) ?_ ?_
       rotate_left
       ·intro w'
        go_simp
        with_reducible rfl
       rotate_left
       ·simp only [Act.put, List.setIfInBounds_toArray, List.set_cons_zero, List.set_cons_succ, i64_w, i32_w]
        rfl
       refine pure_ (i := 27) (N := some 77) (v := ?_) (a' := ?_) #[true, true, true, true, true, true, true, true, true, true, true, true, true, true, true, true, true, true, true, true, true, true, true, true, true, true, true, true, false, false, false, false, false, false, false] rfl rfl (any_of HT_.out (by kernel_rfl)) (fun _ _ _ h => h) (Or.inl ⟨by rfl, ?_⟩) ?_ ?_
       rotate_left
       ·intro w'
        go_simp
        with_reducible rfl
       rotate_left
       ·simp only [Act.put, List.setIfInBounds_toArray, List.set_cons_zero, List.set_cons_succ, i64_w, i32_w]
        rfl
       refine pure_ (i := 28) (N := some 78) (v := undef) (a' := ?_) #[true, true, true, true, true, true, true, true, true, true, true, true, true, true, true, true, true, true, true, true, true, true, true, true, true, true, true, true, true, false, false, false, false, false, false] rfl rfl (any_of HT_.out (by kernel_rfl)) (fun _ _ _ h => h) (Or.inr ⟨by rfl, rfl⟩) ?_ ?_
       rotate_left
       ·simp only [Act.put, List.setIfInBounds_toArray, List.set_cons_zero, List.set_cons_succ, i64_w, i32_w]
        rfl
       refine pure_ (i := 29) (N := some 79) (v := undef) (a' := ?_) #[true, true, true, true, true, true, true, true, true, true, true, true, true, true, true, true, true, true, true, true, true, true, true, true, true, true, true, true, true, true, false, false, false, false, false] rfl rfl (any_of HT_.out (by kernel_rfl)) (fun _ _ _ h => h) (Or.inr ⟨by rfl, rfl⟩) ?_ ?_
       rotate_left
       ·simp only [Act.put, List.setIfInBounds_toArray, List.set_cons_zero, List.set_cons_succ, i64_w, i32_w]
        rfl
       refine pure_ (i := 30) (N := some 80) (v := undef) (a' := ?_) #[true, true, true, true, true, true, true, true, true, true, true, true, true, true, true, true, true, true, true, true, true, true, true, true, true, true, true, true, true, true, true, false, false, false, false] rfl rfl (any_of HT_.out (by kernel_rfl)) (fun _ _ _ h => h) (Or.inr ⟨by rfl, rfl⟩) ?_ ?_
       rotate_left
       ·simp only [Act.put, List.setIfInBounds_toArray, List.set_cons_zero, List.set_cons_succ, i64_w, i32_w]
        rfl
       refine pure_ (i := 31) (N := some 81) (v := undef) (a' := ?_) #[true, true, true, true, true, true, true, true, true, true, true, true, true, true, true, true, true, true, true, true, true, true, true, true, true, true, true, true, true, true, true, true, false, false, false] rfl rfl (any_of HT_.out (by kernel_rfl)) (fun _ _ _ h => h) (Or.inr ⟨by rfl, rfl⟩) ?_ ?_
       rotate_left
       ·simp only [Act.put, List.setIfInBounds_toArray, List.set_cons_zero, List.set_cons_succ, i64_w, i32_w]
        rfl
       refine pure_ (i := 32) (N := some 82) (v := undef) (a' := ?_) #[true, true, true, true, true, true, true, true, true, true, true, true, true, true, true, true, true, true, true, true, true, true, true, true, true, true, true, true, true, true, true, true, true, false, false] rfl rfl (any_of HT_.out (by kernel_rfl)) (fun _ _ _ h => h) (Or.inr ⟨by rfl, rfl⟩) ?_ ?_
       rotate_left
       ·simp only [Act.put, List.setIfInBounds_toArray, List.set_cons_zero, List.set_cons_succ, i64_w, i32_w]
        rfl
       refine pure_ (i := 33) (N := some 83) (v := ?_) (a' := ?_) #[true, true, true, true, true, true, true, true, true, true, true, true, true, true, true, true, true, true, true, true, true, true, true, true, true, true, true, true, true, true, true, true, true, true, false] rfl rfl (any_of HT_.out (by kernel_rfl)) (fun _ _ _ h => h) (Or.inl ⟨by rfl, ?_⟩) ?_ ?_
       rotate_left
       ·intro w'
        go_simp
        with_reducible rfl
       rotate_left
       ·simp only [Act.put, List.setIfInBounds_toArray, List.set_cons_zero, List.set_cons_succ, i64_w, i32_w]
        rfl
       refine pure_ (i := 34) (N := some 2) (v := ?_) (a' := ?_) #[true, true, true, true, true, true, true, true, true, true, true, true, true, true, true, true, true, true, true, true, true, true, true, true, true, true, true, true, true, true, true, true, true, true, true] rfl rfl (any_of HT_.out (by kernel_rfl)) (fun _ _ _ h => h) (Or.inl ⟨by rfl, ?_⟩) ?_ ?_
       rotate_left
       ·intro w'
        go_simp
        with_reducible rfl
       rotate_left
       ·simp only [Act.put, List.setIfInBounds_toArray, List.set_cons_zero, List.set_cons_succ, i64_w, i32_w]
        rfl
       refine done_ (done_of HT_.out (by kernel_rfl)) ?_
       try go_wp2
       go_ret
       exact ⟨er_, B3_ HB.out GE352.out GE371.out GE372.out⟩
     ·rw [if_neg c29] at H
      have c29b0 : (t374 == x4_1) = false := beq_eq_false_iff_ne.mpr c29
      have c29b1 : (t374 != x4_1) = true := bne_iff_ne.mpr c29
      obtain rfl := Option.some.inj H
      obtain ⟨hcz110_0, hcz110_1, hcz110_2, hcz110_3, hfz110_0, hfz110_1, hfz110_2, hfz110_3⟩ := box4_ BK352.out
      try go_wp2_with (first | ((with_reducible refine gate_callee (f := 30) rfl ?_); refine goesL_ (some 45) rfl rfl Try.func30 (by kernel_rfl) rfl #[.slice A0 l0.length c0] rfl ma_ ?_; (with_reducible refine (spec_DrawEqualOptic.calls k1 _ _ l0 t359 t360 t361 t362 t365 t366 t367 t368 _ ?side1 ?side2 A26.out).mono ?_); (case side1 => exact C_ (Kd.C_below HR0.out HB.out)); (case side2 => exact HC0.out); rintro e w111 ⟨v363, v369, rfl, ho0, ho1, hb⟩; refine ⟨_, rfl, ?_⟩; have HO364 := Aside0.mk (Kd.N_lower (Kd.N_mono (ok' := fun k_ => some k_ ≠ (v369 : Value).ownBlock ∧ some k_ ≠ (.slice Ao9 t349.length co9 : Value).ownBlock ∧ k_ ≠ gb352) (Kd.R_N (Kd.R_bound ho0)) (fun k_ hk_ => ⟨hk_.1, (Kd.fresh' (Kd.N_lt (N_ HO_353003.out)) k_ hk_.2.1), (Kd.freshB (K_ BK352.out) k_ hk_.2.1)⟩)) (below_size (B1_ HB.out GE352.out))); have HO370 := Aside0.mk (Kd.N_lower (Kd.N_mono (ok' := fun k_ => some k_ ≠ (v363 : Value).ownBlock ∧ some k_ ≠ (.slice Ao9 t349.length co9 : Value).ownBlock ∧ k_ ≠ gb352) (Kd.R_N (Kd.R_bound ho1)) (fun k_ hk_ => ⟨hk_.1, (Kd.fresh' (Kd.N_lt (N_ HO_353003.out)) k_ hk_.2.1), (Kd.freshB (K_ BK352.out) k_ hk_.2.1)⟩)) (below_size (B1_ HB.out GE352.out))); replace HO_353003 := Aside0.mk (Kd.N_mono (Kd.N_told (Kd.N_told (Kd.N_old (N_ HO_353003.out) hb) (Kd.R_base ho0)) (Kd.R_base ho1)) (fun _ h_ => h_.1)); replace BK352 := Aside0.mk (blk_below (K_ BK352.out) hb); replace HB := Aside0.mk (below_step (B1_ HB.out GE352.out) hb); (try clear hb); (try clear hb2); (try clear hk); (try clear hi); (try clear ho0); (try clear ho1)) | ((with_reducible refine gate_dst (N := 7) rfl ?_); refine box_event ?hg (N := 7) ?hd (cs := #[.int .i64 0, .string (⟨#[]⟩ : ByteArray), .int .i64 0, .slice none 0 0]) (t := 29) ?hr ?_; (case hd => rfl); (case hg => rfl); (case hr => first | (go_simp; done) | (go_simp; rfl)); intro gb371 hg w112 hbox hb; replace HO_353003 := Aside0.mk (Kd.N_below (Kd.N_elderB (N_ HO_353003.out) gb371 (Nat.le_of_eq hg.symm)) hb); replace HO364 := Aside0.mk (Kd.N_below (Kd.N_elderB (N_ HO364.out) gb371 (Nat.le_of_eq hg.symm)) hb); replace HO370 := Aside0.mk (Kd.N_below (Kd.N_elderB (N_ HO370.out) gb371 (Nat.le_of_eq hg.symm)) hb); have BK371 := Aside0.mk (hbox); have GW371 := Aside0.mk ((by rw [hg]; exact (below_size (B1_ HB.out GE352.out)) : w.heap.size ≤ gb371)); have GE371 := Aside0.mk ((by rw [hg]; exact (below_size (B1_ HB.out GE352.out)) : w.heap.size ≤ gb371)); replace HB := Aside0.mk (below_step (B1_ HB.out GE352.out) hb); have NB352_371 := Aside0.mk ((by rw [hg]; exact Nat.ne_of_lt (blk_lt (K_ BK352.out)) : gb352 ≠ gb371)); have NB371_352 := Aside0.mk ((by rw [hg]; exact Nat.ne_of_gt (blk_lt (K_ BK352.out)) : gb371 ≠ gb352)); replace BK352 := Aside0.mk (blk_below (K_ BK352.out) hb); clear hb hbox hg) | ((with_reducible refine gate_dst (N := 8) rfl ?_); refine box_event ?hg (N := 8) ?hd (cs := #[.int .i64 0, .string (⟨#[]⟩ : ByteArray), .int .i64 0, .slice none 0 0]) (t := 29) ?hr ?_; (case hd => rfl); (case hg => rfl); (case hr => first | (go_simp; done) | (go_simp; rfl)); intro gb372 hg w113 hbox hb; replace HO_353003 := Aside0.mk (Kd.N_below (Kd.N_elderB (N_ HO_353003.out) gb372 (Nat.le_of_eq hg.symm)) hb); replace HO364 := Aside0.mk (Kd.N_below (Kd.N_elderB (N_ HO364.out) gb372 (Nat.le_of_eq hg.symm)) hb); replace HO370 := Aside0.mk (Kd.N_below (Kd.N_elderB (N_ HO370.out) gb372 (Nat.le_of_eq hg.symm)) hb); have BK372 := Aside0.mk (hbox); have GW372 := Aside0.mk ((by rw [hg]; exact (below_size (B2_ HB.out GE352.out GE371.out)) : w.heap.size ≤ gb372)); have GE372 := Aside0.mk ((by rw [hg]; exact (below_size (B2_ HB.out GE352.out GE371.out)) : w.heap.size ≤ gb372)); replace HB := Aside0.mk (below_step (B2_ HB.out GE352.out GE371.out) hb); have NB352_372 := Aside0.mk ((by rw [hg]; exact Nat.ne_of_lt (blk_lt (K_ BK352.out)) : gb352 ≠ gb372)); have NB372_352 := Aside0.mk ((by rw [hg]; exact Nat.ne_of_gt (blk_lt (K_ BK352.out)) : gb372 ≠ gb352)); replace BK352 := Aside0.mk (blk_below (K_ BK352.out) hb); have NB371_372 := Aside0.mk ((by rw [hg]; exact Nat.ne_of_lt (blk_lt (K_ BK371.out)) : gb371 ≠ gb372)); have NB372_371 := Aside0.mk ((by rw [hg]; exact Nat.ne_of_gt (blk_lt (K_ BK371.out)) : gb372 ≠ gb371)); replace BK371 := Aside0.mk (blk_below (K_ BK371.out) hb); clear hb hbox hg; have hnb114 := NB371_352.out; have hnc114 := NB352_371.out; have hnb115 := NB371_372.out; have hnc115 := NB372_371.out; obtain ⟨hcz116_0, hcz116_1, hcz116_2, hcz116_3, hfz116_0, hfz116_1, hfz116_2, hfz116_3⟩ := box4_ BK371.out; obtain ⟨Ao117, co117, eo117⟩ := Kd.N_slice HO364.out; subst eo117; have hnb118 := NB372_352.out; have hnc118 := NB352_372.out; obtain ⟨hcz119_0, hcz119_1, hcz119_2, hcz119_3, hfz119_0, hfz119_1, hfz119_2, hfz119_3⟩ := box4_ BK372.out; obtain ⟨Ao120, co120, eo120⟩ := Kd.N_slice HO370.out; subst eo120) | ((with_reducible refine gate_callee (f := 31) rfl ?_); refine goesL_ (some 49) rfl rfl Try.func31 (by kernel_rfl) rfl #[.slice A0 l0.length c0] rfl ma_ ?_; (with_reducible refine (spec_DrawArityOf.calls k1 _ _ l0 t373 _ ?side1 ?side2 A27.out).mono ?_); (case side1 => exact Kd.C_below HR0.out (B3_ HB.out GE352.out GE371.out GE372.out)); (case side2 => exact HC0.out); rintro e w121 ⟨rfl, hb⟩; refine ⟨_, rfl, ?_⟩; replace HO_353003 := Aside0.mk (Kd.N_below (by (with_reducible repeat (first | apply Kd.N_alloc | apply Kd.N_drewN | apply Kd.N_drew)); exact (Kd.N_mono (Kd.N_mono (Kd.N_far (p := ⟨gb372, 3, none⟩) (Kd.N_far (p := ⟨gb372, 2, none⟩) (Kd.N_far (p := ⟨gb372, 1, none⟩) (Kd.N_far (p := ⟨gb372, 0, none⟩) (Kd.N_far (p := ⟨gb371, 3, none⟩) (Kd.N_far (p := ⟨gb371, 2, none⟩) (Kd.N_far (p := ⟨gb371, 1, none⟩) (Kd.N_far (p := ⟨gb371, 0, none⟩) (Kd.N_mono (Kd.N_mono HO_353003.out (fun k_ hk => (⟨hk, hk.1.2⟩ : _ ∧ k_ ≠ gb371))) (fun k_ hk => (⟨hk, hk.1.2⟩ : _ ∧ k_ ≠ gb372))) (fun _ hk => hk.1.2) (.int .i64 t359)) (fun _ hk => hk.1.2) (.string t360)) (fun _ hk => hk.1.2) (.int .i64 t361)) (fun _ hk => hk.1.2) (.slice Ao117 t362.length co117)) (fun _ hk => hk.2) (.int .i64 t365)) (fun _ hk => hk.2) (.string t366)) (fun _ hk => hk.2) (.int .i64 t367)) (fun _ hk => hk.2) (.slice Ao120 t368.length co120)) (fun _ h_ => h_.1)) (fun _ h_ => h_.1))) hb); replace HO364 := Aside0.mk (Kd.N_below (by (with_reducible repeat (first | apply Kd.N_alloc | apply Kd.N_drewN | apply Kd.N_drew)); exact (Kd.N_mono (Kd.N_mono (Kd.N_far (p := ⟨gb372, 3, none⟩) (Kd.N_far (p := ⟨gb372, 2, none⟩) (Kd.N_far (p := ⟨gb372, 1, none⟩) (Kd.N_far (p := ⟨gb372, 0, none⟩) (Kd.N_far (p := ⟨gb371, 3, none⟩) (Kd.N_far (p := ⟨gb371, 2, none⟩) (Kd.N_far (p := ⟨gb371, 1, none⟩) (Kd.N_far (p := ⟨gb371, 0, none⟩) (Kd.N_mono (Kd.N_mono HO364.out (fun k_ hk => (⟨hk, hk.1.2⟩ : _ ∧ k_ ≠ gb371))) (fun k_ hk => (⟨hk, hk.1.2⟩ : _ ∧ k_ ≠ gb372))) (fun _ hk => hk.1.2) (.int .i64 t359)) (fun _ hk => hk.1.2) (.string t360)) (fun _ hk => hk.1.2) (.int .i64 t361)) (fun _ hk => hk.1.2) (.slice Ao117 t362.length co117)) (fun _ hk => hk.2) (.int .i64 t365)) (fun _ hk => hk.2) (.string t366)) (fun _ hk => hk.2) (.int .i64 t367)) (fun _ hk => hk.2) (.slice Ao120 t368.length co120)) (fun _ h_ => h_.1)) (fun _ h_ => h_.1))) hb); replace HO370 := Aside0.mk (Kd.N_below (by (with_reducible repeat (first | apply Kd.N_alloc | apply Kd.N_drewN | apply Kd.N_drew)); exact (Kd.N_mono (Kd.N_mono (Kd.N_far (p := ⟨gb372, 3, none⟩) (Kd.N_far (p := ⟨gb372, 2, none⟩) (Kd.N_far (p := ⟨gb372, 1, none⟩) (Kd.N_far (p := ⟨gb372, 0, none⟩) (Kd.N_far (p := ⟨gb371, 3, none⟩) (Kd.N_far (p := ⟨gb371, 2, none⟩) (Kd.N_far (p := ⟨gb371, 1, none⟩) (Kd.N_far (p := ⟨gb371, 0, none⟩) (Kd.N_mono (Kd.N_mono HO370.out (fun k_ hk => (⟨hk, hk.1.2⟩ : _ ∧ k_ ≠ gb371))) (fun k_ hk => (⟨hk, hk.1.2⟩ : _ ∧ k_ ≠ gb372))) (fun _ hk => hk.1.2) (.int .i64 t359)) (fun _ hk => hk.1.2) (.string t360)) (fun _ hk => hk.1.2) (.int .i64 t361)) (fun _ hk => hk.1.2) (.slice Ao117 t362.length co117)) (fun _ hk => hk.2) (.int .i64 t365)) (fun _ hk => hk.2) (.string t366)) (fun _ hk => hk.2) (.int .i64 t367)) (fun _ hk => hk.2) (.slice Ao120 t368.length co120)) (fun _ h_ => h_.1)) (fun _ h_ => h_.1))) hb); replace BK352 := Aside0.mk (blk_below (g := gb352) (o := .cells #[.int .i64 t346, .string t347, .int .i64 t348, .slice Ao9 t349.length co9] 29 (0, 0)) (by (with_reducible repeat (first | refine blk_drewN ?_ _ | refine blk_drew ?_ | refine blk_alloc ?_ _)); refine blk_far ?_ NB352_372.out _; (with_reducible repeat (first | refine blk_drewN ?_ _ | refine blk_drew ?_ | refine blk_alloc ?_ _)); refine blk_far ?_ NB352_372.out _; (with_reducible repeat (first | refine blk_drewN ?_ _ | refine blk_drew ?_ | refine blk_alloc ?_ _)); refine blk_far ?_ NB352_372.out _; (with_reducible repeat (first | refine blk_drewN ?_ _ | refine blk_drew ?_ | refine blk_alloc ?_ _)); refine blk_far ?_ NB352_372.out _; (with_reducible repeat (first | refine blk_drewN ?_ _ | refine blk_drew ?_ | refine blk_alloc ?_ _)); refine blk_far ?_ NB352_371.out _; (with_reducible repeat (first | refine blk_drewN ?_ _ | refine blk_drew ?_ | refine blk_alloc ?_ _)); refine blk_far ?_ NB352_371.out _; (with_reducible repeat (first | refine blk_drewN ?_ _ | refine blk_drew ?_ | refine blk_alloc ?_ _)); refine blk_far ?_ NB352_371.out _; (with_reducible repeat (first | refine blk_drewN ?_ _ | refine blk_drew ?_ | refine blk_alloc ?_ _)); refine blk_far ?_ NB352_371.out _; (with_reducible repeat (first | refine blk_drewN ?_ _ | refine blk_drew ?_ | refine blk_alloc ?_ _)); exact BK352.out) hb); replace BK371 := Aside0.mk (blk_below (g := gb371) (o := .cells #[.int .i64 t359, .string t360, .int .i64 t361, .slice Ao117 t362.length co117] 29 (0, 0)) (by (with_reducible repeat (first | refine blk_drewN ?_ _ | refine blk_drew ?_ | refine blk_alloc ?_ _)); refine blk_far ?_ NB371_372.out _; (with_reducible repeat (first | refine blk_drewN ?_ _ | refine blk_drew ?_ | refine blk_alloc ?_ _)); refine blk_far ?_ NB371_372.out _; (with_reducible repeat (first | refine blk_drewN ?_ _ | refine blk_drew ?_ | refine blk_alloc ?_ _)); refine blk_far ?_ NB371_372.out _; (with_reducible repeat (first | refine blk_drewN ?_ _ | refine blk_drew ?_ | refine blk_alloc ?_ _)); refine blk_far ?_ NB371_372.out _; (with_reducible repeat (first | refine blk_drewN ?_ _ | refine blk_drew ?_ | refine blk_alloc ?_ _)); refine blk_put (cs := #[.int .i64 t359, .string t360, .int .i64 t361, .slice none 0 0]) ?_ 3 _ rfl; (with_reducible repeat (first | refine blk_drewN ?_ _ | refine blk_drew ?_ | refine blk_alloc ?_ _)); refine blk_put (cs := #[.int .i64 t359, .string t360, .int .i64 0, .slice none 0 0]) ?_ 2 _ rfl; (with_reducible repeat (first | refine blk_drewN ?_ _ | refine blk_drew ?_ | refine blk_alloc ?_ _)); refine blk_put (cs := #[.int .i64 t359, .string (⟨#[]⟩ : ByteArray), .int .i64 0, .slice none 0 0]) ?_ 1 _ rfl; (with_reducible repeat (first | refine blk_drewN ?_ _ | refine blk_drew ?_ | refine blk_alloc ?_ _)); refine blk_put (cs := #[.int .i64 0, .string (⟨#[]⟩ : ByteArray), .int .i64 0, .slice none 0 0]) ?_ 0 _ rfl; (with_reducible repeat (first | refine blk_drewN ?_ _ | refine blk_drew ?_ | refine blk_alloc ?_ _)); exact BK371.out) hb); replace BK372 := Aside0.mk (blk_below (g := gb372) (o := .cells #[.int .i64 t365, .string t366, .int .i64 t367, .slice Ao120 t368.length co120] 29 (0, 0)) (by (with_reducible repeat (first | refine blk_drewN ?_ _ | refine blk_drew ?_ | refine blk_alloc ?_ _)); refine blk_put (cs := #[.int .i64 t365, .string t366, .int .i64 t367, .slice none 0 0]) ?_ 3 _ rfl; (with_reducible repeat (first | refine blk_drewN ?_ _ | refine blk_drew ?_ | refine blk_alloc ?_ _)); refine blk_put (cs := #[.int .i64 t365, .string t366, .int .i64 0, .slice none 0 0]) ?_ 2 _ rfl; (with_reducible repeat (first | refine blk_drewN ?_ _ | refine blk_drew ?_ | refine blk_alloc ?_ _)); refine blk_put (cs := #[.int .i64 t365, .string (⟨#[]⟩ : ByteArray), .int .i64 0, .slice none 0 0]) ?_ 1 _ rfl; (with_reducible repeat (first | refine blk_drewN ?_ _ | refine blk_drew ?_ | refine blk_alloc ?_ _)); refine blk_put (cs := #[.int .i64 0, .string (⟨#[]⟩ : ByteArray), .int .i64 0, .slice none 0 0]) ?_ 0 _ rfl; (with_reducible repeat (first | refine blk_drewN ?_ _ | refine blk_drew ?_ | refine blk_alloc ?_ _)); refine blk_far ?_ NB372_371.out _; (with_reducible repeat (first | refine blk_drewN ?_ _ | refine blk_drew ?_ | refine blk_alloc ?_ _)); refine blk_far ?_ NB372_371.out _; (with_reducible repeat (first | refine blk_drewN ?_ _ | refine blk_drew ?_ | refine blk_alloc ?_ _)); refine blk_far ?_ NB372_371.out _; (with_reducible repeat (first | refine blk_drewN ?_ _ | refine blk_drew ?_ | refine blk_alloc ?_ _)); refine blk_far ?_ NB372_371.out _; (with_reducible repeat (first | refine blk_drewN ?_ _ | refine blk_drew ?_ | refine blk_alloc ?_ _)); exact BK372.out) hb); replace HB := Aside0.mk (below_step (B3_ HB.out GE352.out GE371.out GE372.out) hb); (try clear hb); (try clear hb2); (try clear hk); (try clear hi)))
      replace HO_353003 := Aside0.mk (Kd.N_drew HO_353003.out)
      replace HO364 := Aside0.mk (Kd.N_drew HO364.out)
      replace HO370 := Aside0.mk (Kd.N_drew HO370.out)
      replace BK352 := Aside0.mk (blk_drew BK352.out)
      replace BK371 := Aside0.mk (blk_drew BK371.out)
      replace BK372 := Aside0.mk (blk_drew BK372.out)
      replace HB := Aside0.mk (below_drew1 HB.out)
      refine start_ (n := 35) (S := fun w' => w'.cell? ⟨gb352, 0, none⟩ = some (.int .i64 t346) ∧ w'.cell? ⟨gb352, 1, none⟩ = some (.string t347) ∧ w'.cell? ⟨gb352, 2, none⟩ = some (.int .i64 t348) ∧ w'.cell? ⟨gb352, 3, none⟩ = some (.slice Ao9 t349.length co9)) (ds := []) #[false, false, false, false, false, false, false, false, false, false, false, false, false, false, false, false, false, false, false, false, false, false, false, false, false, false, false, false, false, false, false, false, false, false, false] (by kernel_rfl) rfl rfl ⟨(blk_cell BK352.out 0).trans rfl, (blk_cell BK352.out 1).trans rfl, (blk_cell BK352.out 2).trans rfl, (blk_cell BK352.out 3).trans rfl⟩ (fun hHeld => ?_); refine with_tabW laws_FnOptics.tab14 laws_FnOptics.bits14 (fun HT_ HW_ => ?_)
      generalize w121.drew = w122 at HO_353003 HO364 HO370 BK352 BK371 BK372 HB hHeld ⊢
      refine pure_ (i := 2) (N := some 52) (v := ?_) (a' := ?_) #[false, false, true, false, false, false, false, false, false, false, false, false, false, false, false, false, false, false, false, false, false, false, false, false, false, false, false, false, false, false, false, false, false, false, false] rfl rfl (any_of HT_.out (by kernel_rfl)) (fun _ _ _ h => h) (Or.inl ⟨by rfl, ?_⟩) ?_ ?_
      rotate_left
      ·intro w'
       go_simp
       with_reducible rfl
      rotate_left
      ·simp only [Act.put, List.setIfInBounds_toArray, List.set_cons_zero, List.set_cons_succ, i64_w, i32_w]
       rfl
      refine take_ (i := 0) (N := some 50) (v := ?_) (a' := ?_) #[true, false, true, false, false, false, false, false, false, false, false, false, false, false, false, false, false, false, false, false, false, false, false, false, false, false, false, false, false, false, false, false, false, false, false] rfl rfl (take_ofW HT_.out HW_.out (by kernel_rfl)) (fun _ _ _ h => h) (Or.inl ⟨by rfl, ?_⟩) hHeld ?_ ?_
      rotate_left
      ·rintro w' ⟨s0, s1, s2, s3⟩
       go_simp
       with_reducible rfl
      rotate_left
      ·simp only [Act.put, List.setIfInBounds_toArray, List.set_cons_zero, List.set_cons_succ, i64_w, i32_w]
       rfl
      refine one_ (i := 1) (N := some 51) #[true, true, true, false, false, false, false, false, false, false, false, false, false, false, false, false, false, false, false, false, false, false, false, false, false, false, false, false, false, false, false, false, false, false, false] rfl rfl (one_of HT_.out (by kernel_rfl)) (by decide) (fun K hK => ?_)
      refine goes_ Try.func16 (by kernel_rfl) rfl #[.agg #[.int .i64 t346, .string t347, .int .i64 t348, .slice Ao9 t349.length co9]] (by rfl) rfl rfl ma_ ?_
      with_reducible refine (impl_SizeOf.calls k1 t346 t347 t348 _ _ t349 t374 _ ?side1 ?side2 A28.out).mono ?_
      (case side1 => exact C_ (Kd.N_reads' HO_353003.out).2.2)
      (case side2 => exact (Kd.N_reads' HO_353003.out).2.1)
      rintro e w123 ⟨rfl, hb⟩
      refine ⟨_, rfl, ?_⟩
      replace HO_353003 := Aside0.mk (Kd.N_below (N_ HO_353003.out) hb)
      replace HO364 := Aside0.mk (Kd.N_below (N_ HO364.out) hb)
      replace HO370 := Aside0.mk (Kd.N_below (N_ HO370.out) hb)
      replace BK352 := Aside0.mk (blk_below (K_ BK352.out) hb)
      replace BK371 := Aside0.mk (blk_below (K_ BK371.out) hb)
      replace BK372 := Aside0.mk (blk_below (K_ BK372.out) hb)
      replace HB := Aside0.mk (below_step (B3_ HB.out GE352.out GE371.out GE372.out) hb)
      (try clear hb)
      (try clear hb2)
      (try clear hk)
      (try clear hi)
      refine hK.out _ _ ⟨(blk_cell BK352.out 0).trans rfl, (blk_cell BK352.out 1).trans rfl, (blk_cell BK352.out 2).trans rfl, (blk_cell BK352.out 3).trans rfl⟩ (fun hHeld => ?_)
      clear hK K
      refine norm_ (a' := ?_) ?_ ?_
      rotate_left
      ·show Act.put _ (some 51) _ = _
       simp only [Act.put, List.setIfInBounds_toArray, List.set_cons_zero, List.set_cons_succ, i64_w, i32_w]
       rfl
      refine pure_ (i := 3) (N := some 53) (v := ?_) (a' := ?_) #[true, true, true, true, false, false, false, false, false, false, false, false, false, false, false, false, false, false, false, false, false, false, false, false, false, false, false, false, false, false, false, false, false, false, false] rfl rfl (any_of HT_.out (by kernel_rfl)) (fun _ _ _ h => h) (Or.inl ⟨by rfl, ?_⟩) ?_ ?_
      rotate_left
      ·intro w'
       go_simp
       with_reducible rfl
      rotate_left
      ·simp only [Act.put, List.setIfInBounds_toArray, List.set_cons_zero, List.set_cons_succ, i64_w, i32_w]
       rfl
      refine pure_ (i := 4) (N := some 54) (v := ?_) (a' := ?_) #[true, true, true, true, true, false, false, false, false, false, false, false, false, false, false, false, false, false, false, false, false, false, false, false, false, false, false, false, false, false, false, false, false, false, false] rfl rfl (any_of HT_.out (by kernel_rfl)) (fun _ _ _ h => h) (Or.inl ⟨by rfl, ?_⟩) ?_ ?_
      rotate_left
      ·intro w'
       go_simp
       with_reducible rfl
      rotate_left
      ·simp only [Act.put, List.setIfInBounds_toArray, List.set_cons_zero, List.set_cons_succ, i64_w, i32_w]
       rfl
      refine pure_ (i := 5) (N := some 55) (v := undef) (a' := ?_) #[true, true, true, true, true, true, false, false, false, false, false, false, false, false, false, false, false, false, false, false, false, false, false, false, false, false, false, false, false, false, false, false, false, false, false] rfl rfl (any_of HT_.out (by kernel_rfl)) (fun _ _ _ h => h) (Or.inr ⟨by rfl, rfl⟩) ?_ ?_
      rotate_left
      ·simp only [Act.put, List.setIfInBounds_toArray, List.set_cons_zero, List.set_cons_succ, i64_w, i32_w]
       rfl
      refine pure_ (i := 6) (N := some 56) (v := undef) (a' := ?_) #[true, true, true, true, true, true, true, false, false, false, false, false, false, false, false, false, false, false, false, false, false, false, false, false, false, false, false, false, false, false, false, false, false, false, false] rfl rfl (any_of HT_.out (by kernel_rfl)) (fun _ _ _ h => h) (Or.inr ⟨by rfl, rfl⟩) ?_ ?_
      rotate_left
      ·simp only [Act.put, List.setIfInBounds_toArray, List.set_cons_zero, List.set_cons_succ, i64_w, i32_w]
       rfl
      refine pure_ (i := 7) (N := some 57) (v := undef) (a' := ?_) #[true, true, true, true, true, true, true, true, false, false, false, false, false, false, false, false, false, false, false, false, false, false, false, false, false, false, false, false, false, false, false, false, false, false, false] rfl rfl (any_of HT_.out (by kernel_rfl)) (fun _ _ _ h => h) (Or.inr ⟨by rfl, rfl⟩) ?_ ?_
      rotate_left
      ·simp only [Act.put, List.setIfInBounds_toArray, List.set_cons_zero, List.set_cons_succ, i64_w, i32_w]
       rfl
      refine pure_ (i := 8) (N := some 58) (v := undef) (a' := ?_) #[true, true, true, true, true, true, true, true, true, false, false, false, false, false, false, false, false, false, false, false, false, false, false, false, false, false, false, false, false, false, false, false, false, false, false] rfl rfl (any_of HT_.out (by kernel_rfl)) (fun _ _ _ h => h) (Or.inr ⟨by rfl, rfl⟩) ?_ ?_
      rotate_left
      ·simp only [Act.put, List.setIfInBounds_toArray, List.set_cons_zero, List.set_cons_succ, i64_w, i32_w]
       rfl
      refine pure_ (i := 9) (N := some 59) (v := undef) (a' := ?_) #[true, true, true, true, true, true, true, true, true, true, false, false, false, false, false, false, false, false, false, false, false, false, false, false, false, false, false, false, false, false, false, false, false, false, false] rfl rfl (any_of HT_.out (by kernel_rfl)) (fun _ _ _ h => h) (Or.inr ⟨by rfl, rfl⟩) ?_ ?_
      rotate_left
      ·simp only [Act.put, List.setIfInBounds_toArray, List.set_cons_zero, List.set_cons_succ, i64_w, i32_w]
       rfl
      refine pure_ (i := 10) (N := some 60) (v := ?_) (a' := ?_) #[true, true, true, true, true, true, true, true, true, true, true, false, false, false, false, false, false, false, false, false, false, false, false, false, false, false, false, false, false, false, false, false, false, false, false] rfl rfl (any_of HT_.out (by kernel_rfl)) (fun _ _ _ h => h) (Or.inl ⟨by rfl, ?_⟩) ?_ ?_
      rotate_left
      ·intro w'
       go_simp
       with_reducible rfl
      rotate_left
      ·simp only [Act.put, List.setIfInBounds_toArray, List.set_cons_zero, List.set_cons_succ, i64_w, i32_w]
       rfl
      refine pure_ (i := 11) (N := some 61) (v := ?_) (a' := ?_) #[true, true, true, true, true, true, true, true, true, true, true, true, false, false, false, false, false, false, false, false, false, false, false, false, false, false, false, false, false, false, false, false, false, false, false] rfl rfl (any_of HT_.out (by kernel_rfl)) (fun _ _ _ h => h) (Or.inl ⟨by rfl, ?_⟩) ?_ ?_
      rotate_left
      ·intro w'
       go_simp
       with_reducible rfl
      rotate_left
      ·simp only [Act.put, List.setIfInBounds_toArray, List.set_cons_zero, List.set_cons_succ, i64_w, i32_w]
       rfl
      refine pure_ (i := 12) (N := some 62) (v := undef) (a' := ?_) #[true, true, true, true, true, true, true, true, true, true, true, true, true, false, false, false, false, false, false, false, false, false, false, false, false, false, false, false, false, false, false, false, false, false, false] rfl rfl (any_of HT_.out (by kernel_rfl)) (fun _ _ _ h => h) (Or.inr ⟨by rfl, rfl⟩) ?_ ?_
      rotate_left
      ·simp only [Act.put, List.setIfInBounds_toArray, List.set_cons_zero, List.set_cons_succ, i64_w, i32_w]
       rfl
      refine pure_ (i := 13) (N := some 63) (v := undef) (a' := ?_) #[true, true, true, true, true, true, true, true, true, true, true, true, true, true, false, false, false, false, false, false, false, false, false, false, false, false, false, false, false, false, false, false, false, false, false] rfl rfl (any_of HT_.out (by kernel_rfl)) (fun _ _ _ h => h) (Or.inr ⟨by rfl, rfl⟩) ?_ ?_
      rotate_left
      ·simp only [Act.put, List.setIfInBounds_toArray, List.set_cons_zero, List.set_cons_succ, i64_w, i32_w]
       rfl
      refine pure_ (i := 14) (N := some 64) (v := undef) (a' := ?_) #[true, true, true, true, true, true, true, true, true, true, true, true, true, true, true, false, false, false, false, false, false, false, false, false, false, false, false, false, false, false, false, false, false, false, false] rfl rfl (any_of HT_.out (by kernel_rfl)) (fun _ _ _ h => h) (Or.inr ⟨by rfl, rfl⟩) ?_ ?_
      rotate_left
      ·simp only [Act.put, List.setIfInBounds_toArray, List.set_cons_zero, List.set_cons_succ, i64_w, i32_w]
       rfl
      refine pure_ (i := 15) (N := some 65) (v := undef) (a' := ?_) #[true, true, true, true, true, true, true, true, true, true, true, true, true, true, true, true, false, false, false, false, false, false, false, false, false, false, false, false, false, false, false, false, false, false, false] rfl rfl (any_of HT_.out (by kernel_rfl)) (fun _ _ _ h => h) (Or.inr ⟨by rfl, rfl⟩) ?_ ?_
      rotate_left
      ·simp only [Act.put, List.setIfInBounds_toArray, List.set_cons_zero, List.set_cons_succ, i64_w, i32_w]
       rfl
      refine pure_ (i := 16) (N := some 66) (v := undef) (a' := ?_) #[true, true, true, true, true, true, true, true, true, true, true, true, true, true, true, true, true, false, false, false, false, false, false, false, false, false, false, false, false, false, false, false, false, false, false] rfl rfl (any_of HT_.out (by kernel_rfl)) (fun _ _ _ h => h) (Or.inr ⟨by rfl, rfl⟩) ?_ ?_
      rotate_left
      ·simp only [Act.put, List.setIfInBounds_toArray, List.set_cons_zero, List.set_cons_succ, i64_w, i32_w]
       rfl
      refine pure_ (i := 17) (N := some 67) (v := ?_) (a' := ?_) #[true, true, true, true, true, true, true, true, true, true, true, true, true, true, true, true, true, true, false, false, false, false, false, false, false, false, false, false, false, false, false, false, false, false, false] rfl rfl (any_of HT_.out (by kernel_rfl)) (fun _ _ _ h => h) (Or.inl ⟨by rfl, ?_⟩) ?_ ?_
      rotate_left
      ·intro w'
       go_simp
       with_reducible rfl
      rotate_left
      ·simp only [Act.put, List.setIfInBounds_toArray, List.set_cons_zero, List.set_cons_succ, i64_w, i32_w]
       rfl
      refine pure_ (i := 18) (N := some 68) (v := ?_) (a' := ?_) #[true, true, true, true, true, true, true, true, true, true, true, true, true, true, true, true, true, true, true, false, false, false, false, false, false, false, false, false, false, false, false, false, false, false, false] rfl rfl (any_of HT_.out (by kernel_rfl)) (fun _ _ _ h => h) (Or.inl ⟨by rfl, ?_⟩) ?_ ?_
      rotate_left
      ·intro w'
       go_simp
       with_reducible rfl
      rotate_left
      ·simp only [Act.put, List.setIfInBounds_toArray, List.set_cons_zero, List.set_cons_succ, i64_w, i32_w]
       rfl
      refine pure_ (i := 19) (N := some 69) (v := undef) (a' := ?_) #[true, true, true, true, true, true, true, true, true, true, true, true, true, true, true, true, true, true, true, true, false, false, false, false, false, false, false, false, false, false, false, false, false, false, false] rfl rfl (any_of HT_.out (by kernel_rfl)) (fun _ _ _ h => h) (Or.inr ⟨by rfl, rfl⟩) ?_ ?_
      rotate_left
      ·simp only [Act.put, List.setIfInBounds_toArray, List.set_cons_zero, List.set_cons_succ, i64_w, i32_w]
       rfl
      refine pure_ (i := 20) (N := some 70) (v := undef) (a' := ?_) #[true, true, true, true, true, true, true, true, true, true, true, true, true, true, true, true, true, true, true, true, true, false, false, false, false, false, false, false, false, false, false, false, false, false, false] rfl rfl (any_of HT_.out (by kernel_rfl)) (fun _ _ _ h => h) (Or.inr ⟨by rfl, rfl⟩) ?_ ?_
      rotate_left
      ·simp only [Act.put, List.setIfInBounds_toArray, List.set_cons_zero, List.set_cons_succ, i64_w, i32_w]
       rfl
      refine pure_ (i := 21) (N := some 71) (v := undef) (a' := ?_) #[true, true, true, true, true, true, true, true, true, true, true, true, true, true, true, true, true, true, true, true, true, true, false, false, false, false, false, false, false, false, false, false, false, false, false] rfl rfl (any_of HT_.out (by kernel_rfl)) (fun _ _ _ h => h) (Or.inr ⟨by rfl, rfl⟩) ?_ ?_
      rotate_left
      ·simp only [Act.put, List.setIfInBounds_toArray, List.set_cons_zero, List.set_cons_succ, i64_w, i32_w]
       rfl
      refine pure_ (i := 22) (N := some 72) (v := undef) (a' := ?_) #[true, true, true, true, true, true, true, true, true, true, true, true, true, true, true, true, true, true, true, true, true, true, true, false, false, false, false, false, false, false, false, false, false, false, false] rfl rfl (any_of HT_.out (by kernel_rfl)) (fun _ _ _ h => h) (Or.inr ⟨by rfl, rfl⟩) ?_ ?_
      rotate_left
      ·simp only [Act.put, List.setIfInBounds_toArray, List.set_cons_zero, List.set_cons_succ, i64_w, i32_w]
       rfl
      refine pure_ (i := 23) (N := some 73) (v := undef) (a' := ?_) #[true, true, true, true, true, true, true, true, true, true, true, true, true, true, true, true, true, true, true, true, true, true, true, true, false, false, false, false, false, false, false, false, false, false, false] rfl rfl (any_of HT_.out (by kernel_rfl)) (fun _ _ _ h => h) (Or.inr ⟨by rfl, rfl⟩) ?_ ?_
      rotate_left
      ·simp only [Act.put, List.setIfInBounds_toArray, List.set_cons_zero, List.set_cons_succ, i64_w, i32_w]
       rfl
      refine pure_ (i := 24) (N := some 74) (v := undef) (a' := ?_) #[true, true, true, true, true, true, true, true, true, true, true, true, true, true, true, true, true, true, true, true, true, true, true, true, true, false, false, false, false, false, false, false, false, false, false] rfl rfl (any_of HT_.out (by kernel_rfl)) (fun _ _ _ h => h) (Or.inr ⟨by rfl, rfl⟩) ?_ ?_
      rotate_left
      ·simp only [Act.put, List.setIfInBounds_toArray, List.set_cons_zero, List.set_cons_succ, i64_w, i32_w]
       rfl
      refine pure_ (i := 25) (N := some 75) (v := undef) (a' := ?_) #[true, true, true, true, true, true, true, true, true, true, true, true, true, true, true, true, true, true, true, true, true, true, true, true, true, true, false, false, false, false, false, false, false, false, false] rfl rfl (any_of HT_.out (by kernel_rfl)) (fun _ _ _ h => h) (Or.inr ⟨by rfl, rfl⟩) ?_ ?_
      rotate_left
      ·simp only [Act.put, List.setIfInBounds_toArray, List.set_cons_zero, List.set_cons_succ, i64_w, i32_w]
       rfl
      refine pure_ (i := 26) (N := some 76) (v := ?_) (a' := ?_) #[true, true, true, true, true, true, true, true, true, true, true, true, true, true, true, true, true, true, true, true, true, true, true, true, true, true, true, false, false, false, false, false, false, false, false] rfl rfl (any_of HT_.out (by kernel_rfl)) (fun _ _ _ h => h) (Or.inl ⟨by rfl, ?_⟩) ?_ ?_
      rotate_left
      ·intro w'
       go_simp
       with_reducible rfl
      rotate_left
      ·simp only [Act.put, List.setIfInBounds_toArray, List.set_cons_zero, List.set_cons_succ, i64_w, i32_w]
       rfl
      refine pure_ (i := 27) (N := some 77) (v := ?_) (a' := ?_) #[true, true, true, true, true, true, true, true, true, true, true, true, true, true, true, true, true, true, true, true, true, true, true, true, true, true, true, true, false, false, false, false, false, false, false] rfl rfl (any_of HT_.out (by kernel_rfl)) (fun _ _ _ h => h) (Or.inl ⟨by rfl, ?_⟩) ?_ ?_
      rotate_left
      ·intro w'
       go_simp
       with_reducible rfl
      rotate_left
      ·simp only [Act.put, List.setIfInBounds_toArray, List.set_cons_zero, List.set_cons_succ, i64_w, i32_w]
       rfl
      refine pure_ (i := 28) (N := some 78) (v := undef) (a' := ?_) #[true, true, true, true, true, true, true, true, true, true, true, true, true, true, true, true, true, true, true, true, true, true, true, true, true, true, true, true, true, false, false, false, false, false, false] rfl rfl (any_of HT_.out (by kernel_rfl)) (fun _ _ _ h => h) (Or.inr ⟨by rfl, rfl⟩) ?_ ?_
      rotate_left
      ·simp only [Act.put, List.setIfInBounds_toArray, List.set_cons_zero, List.set_cons_succ, i64_w, i32_w]
       rfl
      refine pure_ (i := 29) (N := some 79) (v := undef) (a' := ?_) #[true, true, true, true, true, true, true, true, true, true, true, true, true, true, true, true, true, true, true, true, true, true, true, true, true, true, true, true, true, true, false, false, false, false, false] rfl rfl (any_of HT_.out (by kernel_rfl)) (fun _ _ _ h => h) (Or.inr ⟨by rfl, rfl⟩) ?_ ?_
      rotate_left
      ·simp only [Act.put, List.setIfInBounds_toArray, List.set_cons_zero, List.set_cons_succ, i64_w, i32_w]
       rfl
      refine pure_ (i := 30) (N := some 80) (v := undef) (a' := ?_) #[true, true, true, true, true, true, true, true, true, true, true, true, true, true, true, true, true, true, true, true, true, true, true, true, true, true, true, true, true, true, true, false, false, false, false] rfl rfl (any_of HT_.out (by kernel_rfl)) (fun _ _ _ h => h) (Or.inr ⟨by rfl, rfl⟩) ?_ ?_
      rotate_left
      ·simp only [Act.put, List.setIfInBounds_toArray, List.set_cons_zero, List.set_cons_succ, i64_w, i32_w]
       rfl
      refine pure_ (i := 31) (N := some 81) (v := undef) (a' := ?_) #[true, true, true, true, true, true, true, true, true, true, true, true, true, true, true, true, true, true, true, true, true, true, true, true, true, true, true, true, true, true, true, true, false, false, false] rfl rfl (any_of HT_.out (by kernel_rfl)) (fun _ _ _ h => h) (Or.inr ⟨by rfl, rfl⟩) ?_ ?_
      rotate_left
      ·simp only [Act.put, List.setIfInBounds_toArray, List.set_cons_zero, List.set_cons_succ, i64_w, i32_w]
       rfl
      refine pure_ (i := 32) (N := some 82) (v := undef) (a' := ?_) #[true, true, true, true, true, true, true, true, true, true, true, true, true, true, true, true, true, true, true, true, true, true, true, true, true, true, true, true, true, true, true, true, true, false, false] rfl rfl (any_of HT_.out (by kernel_rfl)) (fun _ _ _ h => h) (Or.inr ⟨by rfl, rfl⟩) ?_ ?_
      rotate_left
      ·simp only [Act.put, List.setIfInBounds_toArray, List.set_cons_zero, List.set_cons_succ, i64_w, i32_w]
       rfl
      refine pure_ (i := 33) (N := some 83) (v := ?_) (a' := ?_) #[true, true, true, true, true, true, true, true, true, true, true, true, true, true, true, true, true, true, true, true, true, true, true, true, true, true, true, true, true, true, true, true, true, true, false] rfl rfl (any_of HT_.out (by kernel_rfl)) (fun _ _ _ h => h) (Or.inl ⟨by rfl, ?_⟩) ?_ ?_
      rotate_left
      ·intro w'
       go_simp
       with_reducible rfl
      rotate_left
      ·simp only [Act.put, List.setIfInBounds_toArray, List.set_cons_zero, List.set_cons_succ, i64_w, i32_w]
       rfl
      refine pure_ (i := 34) (N := some 2) (v := ?_) (a' := ?_) #[true, true, true, true, true, true, true, true, true, true, true, true, true, true, true, true, true, true, true, true, true, true, true, true, true, true, true, true, true, true, true, true, true, true, true] rfl rfl (any_of HT_.out (by kernel_rfl)) (fun _ _ _ h => h) (Or.inl ⟨by rfl, ?_⟩) ?_ ?_
      rotate_left
      ·intro w'
       go_simp
       with_reducible rfl
      rotate_left
      ·simp only [Act.put, List.setIfInBounds_toArray, List.set_cons_zero, List.set_cons_succ, i64_w, i32_w]
       rfl
      refine done_ (done_of HT_.out (by kernel_rfl)) ?_
      try go_wp2
      go_ret
      exact ⟨er_, B3_ HB.out GE352.out GE371.out GE372.out⟩

/-- THE ONE PURE STATEMENT of laws_FnOptics: yours. -/
def laws_FnOptics.Pure : Prop := ∀ (l0 : List Int), l0.length ≤ maxLen → l0.length * 1 ≤ 140737488351232 → (∀ x ∈ l0, (Lit.int .u8 x).wf = true) → ∃ k, laws_FnOptics.f k l0 = some true
theorem laws_FnOptics.walk (P : laws_FnOptics.Pure) (a0 : Option Addr) (len0 cap0 : Nat) (z0 : List Int) (w : World) (w0 : (a0 = none ∧ len0 = 0 ∧ cap0 = 0 ∧ z0 = []) ∨ ∃ x, a0 = some x ∧ len0 ≤ cap0 ∧ cap0 ≤ maxLen ∧ z0.length = cap0 ∧ (∀ i, i < z0.length → w.cell? (x.add i) = some (.int .u8 (z0.getD i 0))) ∧ ∀ n ∈ z0, (Lit.int .u8 n).wf = true) (y0 : len0 * 1 ≤ 140737488351232) :
  Calls Try.prog 9 #[.slice a0 len0 cap0] w fun e w' => e = .returned (.bool true) ∧ Below w.heap.size w w' := by
 obtain ⟨l0, rfl, hr0, hm0, hw0, hc0⟩ := ReadsInt.ofRowC w0
 obtain ⟨k, h⟩ := P l0 hm0 y0 hw0
 refine (laws_FnOptics.calls k _ _ l0 true w (Kd.C_of_reads (d := (0 : Int)) (h1 := fun _ => rfl) hr0) hc0 h).mono ?_
 rintro e w' ⟨rfl, hd⟩
 exact ⟨rfl, hd⟩

end Go.Proofs.Ytibcndpadbipmaa.XF
