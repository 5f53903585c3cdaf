-- Written by myprint.py, a program of this session, which runs the kit's printer with changes of its own. Lean checks it.
import Derived.Test.YtingaflikkeefaaXBx0
import Derived.Test.YtingaflikkeefaaXBx1
import Derived.Test.YtingaflikkeefaaXBx2
import Derived.Test.YtingaflikkeefaaXBx4
import Derived.Test.YtingaflikkeefaaXBx6
import Derived.Test.YtingaflikkeefaaXBx8
import Derived.Test.YtingaflikkeefaaXBx9
import Derived.Test.YtingaflikkeefaaXBx10
import Derived.Test.YtingaflikkeefaaXBx15
import Derived.Test.YtingaflikkeefaaXBx17
import Derived.Test.YtingaflikkeefaaSq
namespace Go.Proofs.Ytingaflikkeefaa.XB
open Go.RowKit Go.Proofs.YtingaflikkeefaaW.PrintWords Go.Proofs.YtingaflikkeefaaW.PrintLast Go.Proofs.YtingaflikkeefaaW.PrintMore Go.Proofs.Ytingaflikkeefaa.Sq
attribute [local go_sem] max2_int min2_int max_two min_two max_three min_three max_four min_four   -- for this text's walks alone
set_option linter.unusedVariables false
set_option linter.unusedSimpArgs false

/-! ### laws_FnTypes: function 9 -/
def laws_FnTypes.l0 : Nat → List Int → Int → Int → Int → Int → List ByteArray → List (S30) → Option (Bool)
 | 0, _, _, _, _, _, _, _ => none
 | k + 1, x0, x4, x5, x6, x543000, x543001, x543002 => if x6 < (x543002.length : Int) then (if 0 ≤ x6 then ((impl_SizeOfType.f k ((rd_T30 x543002 x6).f0) ((rd_T30 x543002 x6).f1) ((rd_T30 x543002 x6).f2)).bind fun t544 => ((impl_DepthOfType.f k ((rd_T30 x543002 x6).f0) ((rd_T30 x543002 x6).f1) ((rd_T30 x543002 x6).f2)).bind fun t546 => (if t546 > x5 then ((impl_DepthOfType.f k ((rd_T30 x543002 x6).f0) ((rd_T30 x543002 x6).f1) ((rd_T30 x543002 x6).f2)).bind fun t548 => (laws_FnTypes.l0 k x0 (wrap64 (x4 + t544)) t548 (wrap64 (x6 + 1)) x543000 x543001 x543002)) else (laws_FnTypes.l0 k x0 (wrap64 (x4 + t544)) x5 (wrap64 (x6 + 1)) x543000 x543001 x543002)))) else (none)) else ((spec_DrawEqualType.f k x0).bind fun bt549 => ((spec_DrawPartType.f k x0).bind fun bt565 => ((impl_PartType.f k bt565.1 bt565.2.1 bt565.2.2.1 bt565.2.2.2).bind fun bt574 => ((spec_PartType.f k bt565.1 bt565.2.1 bt565.2.2.1 bt565.2.2.2).bind fun bt583 => ((impl_SizeOfType.f k x543000 x543001 x543002).bind fun t592 => (if t592 = x4 then ((impl_DepthOfType.f k x543000 x543001 x543002).bind fun t593 => (if t593 = (wrap64 (x5 + 1)) then ((impl_IsValidType.f k x543000 x543001 x543002).bind fun t594 => ((spec_IsValidType.f k x543000 x543001 x543002).bind fun t595 => (if (t594 == t595) = true then ((impl_EqualType.f k bt549.1 bt549.2.1 bt549.2.2.1 bt549.2.2.2.1 bt549.2.2.2.2.1 bt549.2.2.2.2.2).bind fun t596 => ((spec_EqualType.f k bt549.1 bt549.2.1 bt549.2.2.1 bt549.2.2.2.1 bt549.2.2.2.2.1 bt549.2.2.2.2.2).bind fun t597 => (if (t596 == t597) = true then (if (bt574.2.2.2 == bt583.2.2.2) = true then ((impl_EqualType.f k bt574.1 bt574.2.1 bt574.2.2.1 bt583.1 bt583.2.1 bt583.2.2.1).bind fun t598 => (if t598 = true then ((impl_IsUniform.f k x543000 x543001 x543002).bind fun t599 => ((spec_IsUniform.f k x543000 x543001 x543002).bind fun t600 => (some (t599 == t600)))) else (some false))) else (some false)) else (some false)))) else (some false)))) else (some false))) else (some false)))))))
def laws_FnTypes.f (k : Nat) (l0 : List Int) : Option (Bool) := (laws_big.f l0).bind fun t534 => (if t534 = true then (some true) else ((spec_DrawIsValidType.f k l0).bind fun bt535 => (laws_FnTypes.l0 k l0 1 0 0 bt535.1 bt535.2.1 bt535.2.2)))
theorem laws_FnTypes.mono_l : ∀ k, (∀ y0 y1 y2 y3 y4 y5 y6, LeO (laws_FnTypes.l0 k y0 y1 y2 y3 y4 y5 y6) (laws_FnTypes.l0 (k + 1) y0 y1 y2 y3 y4 y5 y6))
 | 0 => fun _ _ _ _ _ _ _ r h => by simp [laws_FnTypes.l0] at h
 | k + 1 => by
  have ih0 := laws_FnTypes.mono_l k
  ·intro y0 y1 y2 y3 y4 y5 y6
   unfold laws_FnTypes.l0
   repeat' first
   | (with_reducible exact ih0 _ _ _ _ _ _ _)
   | (with_reducible exact impl_DepthOfType.mono _ _ _ _)
   | (with_reducible exact impl_EqualType.mono _ _ _ _ _ _ _)
   | (with_reducible exact impl_IsUniform.mono _ _ _ _)
   | (with_reducible exact impl_IsValidType.mono _ _ _ _)
   | (with_reducible exact impl_PartType.mono _ _ _ _ _)
   | (with_reducible exact impl_SizeOfType.mono _ _ _ _)
   | (with_reducible exact spec_DrawEqualType.mono _ _)
   | (with_reducible exact spec_DrawIsValidType.mono _ _)
   | (with_reducible exact spec_DrawPartType.mono _ _)
   | (with_reducible exact spec_EqualType.mono _ _ _ _ _ _ _)
   | (with_reducible exact spec_IsUniform.mono _ _ _ _)
   | (with_reducible exact spec_IsValidType.mono _ _ _ _)
   | (with_reducible exact spec_PartType.mono _ _ _ _ _)
   | (with_reducible exact LeO.refl _)
   | (with_reducible exact LeO.none _)
   | (with_reducible refine LeO.ite ?_ ?_)
   | (with_reducible refine LeO.bind ?_ (fun _ => ?_))
   | exact ih0 _ _ _ _ _ _ _
   | exact impl_DepthOfType.mono _ _ _ _
   | exact impl_EqualType.mono _ _ _ _ _ _ _
   | exact impl_IsUniform.mono _ _ _ _
   | exact impl_IsValidType.mono _ _ _ _
   | exact impl_PartType.mono _ _ _ _ _
   | exact impl_SizeOfType.mono _ _ _ _
   | exact spec_DrawEqualType.mono _ _
   | exact spec_DrawIsValidType.mono _ _
   | exact spec_DrawPartType.mono _ _
   | exact spec_EqualType.mono _ _ _ _ _ _ _
   | exact spec_IsUniform.mono _ _ _ _
   | exact spec_IsValidType.mono _ _ _ _
   | exact spec_PartType.mono _ _ _ _ _
   | exact LeO.none _
   | refine LeO.ite ?_ ?_
   | refine LeO.bind ?_ (fun _ => ?_)
theorem laws_FnTypes.mono : ∀ a0 k, LeO (laws_FnTypes.f k a0) (laws_FnTypes.f (k + 1) a0) := by
 intro a0 k
 have ih0 := laws_FnTypes.mono_l k
 unfold laws_FnTypes.f
 repeat' first
   | (with_reducible exact ih0 _ _ _ _ _ _ _)
   | (with_reducible exact impl_DepthOfType.mono _ _ _ _)
   | (with_reducible exact impl_EqualType.mono _ _ _ _ _ _ _)
   | (with_reducible exact impl_IsUniform.mono _ _ _ _)
   | (with_reducible exact impl_IsValidType.mono _ _ _ _)
   | (with_reducible exact impl_PartType.mono _ _ _ _ _)
   | (with_reducible exact impl_SizeOfType.mono _ _ _ _)
   | (with_reducible exact spec_DrawEqualType.mono _ _)
   | (with_reducible exact spec_DrawIsValidType.mono _ _)
   | (with_reducible exact spec_DrawPartType.mono _ _)
   | (with_reducible exact spec_EqualType.mono _ _ _ _ _ _ _)
   | (with_reducible exact spec_IsUniform.mono _ _ _ _)
   | (with_reducible exact spec_IsValidType.mono _ _ _ _)
   | (with_reducible exact spec_PartType.mono _ _ _ _ _)
   | (with_reducible exact LeO.refl _)
   | (with_reducible exact LeO.none _)
   | (with_reducible refine LeO.ite ?_ ?_)
   | (with_reducible refine LeO.bind ?_ (fun _ => ?_))
   | exact ih0 _ _ _ _ _ _ _
   | exact impl_DepthOfType.mono _ _ _ _
   | exact impl_EqualType.mono _ _ _ _ _ _ _
   | exact impl_IsUniform.mono _ _ _ _
   | exact impl_IsValidType.mono _ _ _ _
   | exact impl_PartType.mono _ _ _ _ _
   | exact impl_SizeOfType.mono _ _ _ _
   | exact spec_DrawEqualType.mono _ _
   | exact spec_DrawIsValidType.mono _ _
   | exact spec_DrawPartType.mono _ _
   | exact spec_EqualType.mono _ _ _ _ _ _ _
   | exact spec_IsUniform.mono _ _ _ _
   | exact spec_IsValidType.mono _ _ _ _
   | exact spec_PartType.mono _ _ _ _ _
   | exact LeO.none _
   | refine LeO.ite ?_ ?_
   | refine LeO.bind ?_ (fun _ => ?_)
def laws_FnTypes.T16 : Bool × List (List Nat × List Nat) := (true, [([], []), ([0], [0]), ([], []), ([1, 2], [1, 2]), ([3, 1], [3]), ([4], [4]), ([5, 4, 4], [4, 5]), ([4], [4]), ([7, 4], [4, 7]), ([6, 8, 4], [4, 6, 8]), ([4, 9], [4, 9]), ([10, 6], [10]), ([11], [11]), ([12, 11, 11], [11, 12]), ([11], [11]), ([14, 13, 11], [11, 14]), ([13, 15, 11], [11, 13, 15]), ([11, 16], [11, 16]), ([17, 15], [17]), ([18], [18]), ([18], [18]), ([19, 20, 18, 18], [18, 19, 20]), ([18], [18]), ([18], [18]), ([22, 23, 21, 18], [18, 22, 23]), ([21, 24, 18], [18, 21, 24]), ([18, 25], [18, 25]), ([26, 24], [26]), ([27], [27]), ([27], [27]), ([28, 29, 27], [27, 28, 29]), ([27, 30], [27, 30]), ([31, 27], [31]), ([32], [32]), ([32], [32]), ([33, 34, 32, 32], [32, 33, 34]), ([32, 35], [32, 35]), ([36, 35], [36]), ([37], [37]), ([38, 37, 37], [37, 38]), ([37], [37]), ([40, 39, 37], [37, 40]), ([39, 41, 37], [37, 39, 41]), ([37, 42], [37, 42]), ([43, 41, 0, 1, 2, 3, 4, 5, 6, 7, 8, 9, 10, 11, 12, 13, 14, 15, 16, 17, 18, 19, 20, 21, 22, 23, 24, 25, 26, 27, 28, 29, 30, 31, 32, 33, 34, 35, 36, 37, 38, 39, 40, 41, 42, 43], [43])])
def laws_FnTypes.B16 : List Nat := [0, 1, 0, 7, 15, 31, 63, 31, 159, 511, 1023, 2047, 4095, 8191, 4095, 32767, 65535, 131071, 262143, 524287, 524287, 2097151, 524287, 524287, 16777215, 33554431, 67108863, 134217727, 268435455, 268435455, 1073741823, 2147483647, 4294967295, 8589934591, 8589934591, 34359738367, 68719476735, 137438953471, 274877906943, 549755813887, 274877906943, 2199023255551, 4398046511103, 8796093022207, 17592186044415]
theorem laws_FnTypes.tab16 : rtab .any (opsOf Try.f9 16) = laws_FnTypes.T16 := by kernel_rfl
theorem laws_FnTypes.bits16 : waitsOk laws_FnTypes.T16.2 laws_FnTypes.B16 = true := by kernel_rfl
set_option maxHeartbeats 8000000 in
set_option maxRecDepth 100000 in
theorem laws_FnTypes.calls (k : Nat) (A0 : Option Addr) (c0 : Nat) (l0 : List Int) (r : Bool) (w : World) (hr0 : Kd.C (Kd.int .u8) w A0 l0.length l0) (hc0 : l0.length ≤ c0) (h : laws_FnTypes.f k l0 = some r) :
  Calls Try.prog 9 #[.slice A0 l0.length c0] w fun e w' => e = .returned (.bool r) ∧ Below w.heap.size w w' := by
 have hu30 := Try.underlying30
 have HR0 := Aside0.mk hr0
 have HC0 := Aside0.mk hc0
 clear hr0 hc0
 have HB := Aside0.mk (Below.refl w.heap.size w)
 have H : ((laws_big.f l0).bind fun t534 => (if t534 = true then (some true) else ((spec_DrawIsValidType.f k l0).bind fun bt535 => (laws_FnTypes.l0 k l0 1 0 0 bt535.1 bt535.2.1 bt535.2.2)))) = some r := h
 clear h
 replace H := Option.bind_eq_some_iff.mp H
 obtain ⟨t534, A20, H⟩ := H
 replace H : (if t534 = true then (some true) else ((spec_DrawIsValidType.f k l0).bind fun bt535 => (laws_FnTypes.l0 k l0 1 0 0 bt535.1 bt535.2.1 bt535.2.2))) = some r := H
 have A2 := Aside0.mk A20
 clear A20
 have HC3 := Aside0.mk H
 clear H
 go_enter Try.func9, Try.ntmps9
 go_upto_if 16 with (first | ((with_reducible refine gate_callee (f := 28) rfl ?_); refine goesL_ (some 16) rfl rfl Try.func28 (by kernel_rfl) rfl #[.slice A0 l0.length c0] rfl ma_ ?_; (with_reducible refine (laws_big.calls _ _ l0 t534 _ ?side1 ?side2 A2.out).mono ?_); (case side1 => exact C_ HR0.out); (case side2 => exact HC0.out); rintro e w' ⟨rfl, ⟨nd, rfl⟩⟩; refine ⟨_, rfl, ?_⟩))
 (try simp only [Act.put, List.setIfInBounds_toArray, List.set_cons_zero, List.set_cons_succ])
 have H := HC3.out
 clear HC3
 by_cases c4 : t534 = true
 ·subst c4
  have H1 : (some true) = some r := by rw [if_pos rfl] at H; exact H
  clear H
  have H := H1
  clear H1
  obtain rfl := Option.some.inj H
  go_wp2
  go_ret
  exact ⟨er_, B0_ HB.out⟩
 ·replace c4 := Bool.eq_false_iff.mpr c4
  subst c4
  have H1 : ((spec_DrawIsValidType.f k l0).bind fun bt535 => (laws_FnTypes.l0 k l0 1 0 0 bt535.1 bt535.2.1 bt535.2.2)) = some r := by rw [if_neg (show ¬ (false = true) by decide)] at H; exact H
  clear H
  have H := H1
  clear H1
  replace H := Option.bind_eq_some_iff.mp H
  obtain ⟨⟨t535, t536, t539⟩, A50, H⟩ := H
  replace H : (laws_FnTypes.l0 k l0 1 0 0 t535 t536 t539) = some r := H
  have A5 := Aside0.mk A50
  clear A50
  have H' := Aside0.mk H
  clear H
  go_wp2_with (first | ((with_reducible refine gate_callee (f := 29) rfl ?_); refine goesL_ (some 18) rfl rfl Try.func29 (by kernel_rfl) rfl #[.slice A0 l0.length c0] rfl ma_ ?_; (with_reducible refine (spec_DrawIsValidType.calls k _ _ l0 t535 t536 t539 _ ?side1 ?side2 A5.out).mono ?_); (case side1 => exact C_ (Kd.C_below HR0.out HB.out)); (case side2 => exact HC0.out); rintro e w6 ⟨v537, v540, rfl, ho0, ho1, hb⟩; refine ⟨_, rfl, ?_⟩; have HO538 := Aside0.mk (Kd.R_lower (Kd.R_mono (ok' := fun k_ => True) ho0 (fun _ hk_ => trivial)) (below_size (B0_ HB.out))); have HO541 := Aside0.mk (Kd.N_lower (Kd.N_mono (ok' := fun k_ => some k_ ≠ (v537 : Value).ownBlock) ho1 (fun k_ hk_ => hk_.2)) (below_size (B0_ HB.out))); replace HB := Aside0.mk (below_step (B0_ HB.out) hb); (try clear hb); (try clear hb2); (try clear hk); (try clear hi); (try clear ho0); (try clear ho1)) | ((with_reducible refine gate_dst (N := 3) rfl ?_); refine box_event ?hg (N := 3) ?hd (cs := #[.int .i64 0, .slice none 0 0, .slice none 0 0]) (t := 30) ?hr ?_; (case hd => rfl); (case hg => rfl); (case hr => first | (go_simp; done) | (go_simp; rfl)); intro gb542 hg w7 hbox hb; replace HO538 := rb_ HO538 hb; replace HO541 := Aside0.mk (Kd.N_below (Kd.N_elderB (N_ HO541.out) gb542 (Nat.le_of_eq hg.symm)) hb); have BK542 := Aside0.mk (hbox); have GW542 := Aside0.mk ((by rw [hg]; exact (below_size (B0_ HB.out)) : w.heap.size ≤ gb542)); have GE542 := Aside0.mk ((by rw [hg]; exact (below_size (B0_ HB.out)) : w.heap.size ≤ gb542)); replace HB := Aside0.mk (below_step (B0_ HB.out) hb); clear hb hbox hg; obtain ⟨hcz8_0, hcz8_1, hcz8_2, hfz8_0, hfz8_1, hfz8_2⟩ := box3_ BK542.out; obtain ⟨Ao9, co9, eo9⟩ := Kd.R_slice HO538.out; subst eo9; obtain ⟨Ao10, co10, eo10⟩ := Kd.N_slice HO541.out; subst eo10))
  go_loopg [4, 5, 6] k (fun kq v4 v5 v6 w' => ∃ (x4_1 : Int) (x5_1 : Int) (x6_1 : Int), v4 = .int .i64 x4_1 ∧ v5 = .int .i64 x5_1 ∧ v6 = .int .i64 x6_1 ∧ Aside0 (laws_FnTypes.l0 kq l0 x4_1 x5_1 x6_1 t535 t536 t539 = some r) ∧ Aside0 (kq ≤ k) ∧ Aside0 (Kd.R Kd.string 9 w' w.heap.size (fun _ => True) (.slice Ao9 t536.length co9) t536) ∧ Aside0 (Kd.N k30 30 w' w.heap.size (fun k_ => some k_ ≠ ((.slice Ao9 t536.length co9) : Value).ownBlock ∧ k_ ≠ gb542) (.slice Ao10 t539.length co10) t539) ∧ Aside0 (w'.heap[gb542]? = some (.cells #[.int .i64 t535, (.slice Ao9 t536.length co9), (.slice Ao10 t539.length co10)] 30 (0, 0))) ∧ Aside0 (Below w.heap.size w w'))
  case atStart => exact ⟨(1), (0), (0), q_, q_, q_, H', ⟨Nat.le_refl _⟩, ⟨by (with_reducible repeat (first | apply Kd.R_alloc | apply Kd.R_drewN | apply Kd.R_drew)); exact Kd.R_mono (Kd.R_far (p := ⟨gb542, 2, none⟩) (Kd.R_far (p := ⟨gb542, 1, none⟩) (Kd.R_far (p := ⟨gb542, 0, none⟩) (Kd.R_types HO538.out BK542.out (by decide)) (fun _ hk => hk.2) (.int .i64 t535)) (fun _ hk => hk.2) (.slice Ao9 t536.length co9)) (fun _ hk => hk.2) (.slice Ao10 t539.length co10)) (fun _ hk => trivial)⟩, ⟨by (with_reducible repeat (first | apply Kd.N_alloc | apply Kd.N_drewN | apply Kd.N_drew)); exact Kd.N_mono (Kd.N_far (p := ⟨gb542, 2, none⟩) (Kd.N_far (p := ⟨gb542, 1, none⟩) (Kd.N_far (p := ⟨gb542, 0, none⟩) (Kd.N_mono HO541.out (fun k_ hk => (⟨hk, hk.2⟩ : _ ∧ k_ ≠ gb542))) (fun _ hk => hk.2) (.int .i64 t535)) (fun _ hk => hk.2) (.slice Ao9 t536.length co9)) (fun _ hk => hk.2) (.slice Ao10 t539.length co10)) (fun _ hk => ⟨hk.1.1, hk.1.2⟩)⟩, ⟨by (with_reducible repeat (first | refine blk_drewN ?_ _ | refine blk_drew ?_ | refine blk_alloc ?_ _)); refine blk_put (cs := #[.int .i64 t535, .slice Ao9 t536.length co9, .slice none 0 0]) ?_ 2 _ rfl; (with_reducible repeat (first | refine blk_drewN ?_ _ | refine blk_drew ?_ | refine blk_alloc ?_ _)); refine blk_put (cs := #[.int .i64 t535, .slice none 0 0, .slice none 0 0]) ?_ 1 _ rfl; (with_reducible repeat (first | refine blk_drewN ?_ _ | refine blk_drew ?_ | refine blk_alloc ?_ _)); refine blk_put (cs := #[.int .i64 0, .slice none 0 0, .slice none 0 0]) ?_ 0 _ rfl; (with_reducible repeat (first | refine blk_drewN ?_ _ | refine blk_drew ?_ | refine blk_alloc ?_ _)); exact BK542.out⟩, ⟨B1_ HB.out GE542.out⟩⟩
  case round =>
   clear H'
   try clear c4
   try clear hcz8_0
   try clear hcz8_1
   try clear hcz8_2
   try clear hfz8_0
   try clear hfz8_1
   try clear hfz8_2
   obtain ⟨x4_1, x5_1, x6_1, rfl, rfl, rfl, HA, HK1, HO_543001, HO_543002, BK542, HB⟩ := hrel
   cases gk with
   | zero => exact absurd HA.out (by simp [laws_FnTypes.l0])
   | succ k1 =>
    have H := HA.out
    clear HA
    simp only [laws_FnTypes.l0] at H
    by_cases c11 : x6_1 < (t539.length : Int)
    ·rw [if_pos c11] at H
     have c11b0 : decide (x6_1 < (t539.length : Int)) = true := decide_eq_true c11
     clear c11
     (first | rw [c11b0] | (simp only [i64_w, i32_w]; rw [c11b0]) | skip)
     by_cases c12 : 0 ≤ x6_1
     ·rw [if_pos c12] at H
      have c12b0 : decide (0 ≤ x6_1) = true := decide_eq_true c12
      clear c12
      replace H := Option.bind_eq_some_iff.mp H
      obtain ⟨t544, A130, H⟩ := H
      replace H : ((impl_DepthOfType.f k1 ((rd_T30 t539 x6_1).f0) ((rd_T30 t539 x6_1).f1) ((rd_T30 t539 x6_1).f2)).bind fun t546 => (if t546 > x5_1 then ((impl_DepthOfType.f k1 ((rd_T30 t539 x6_1).f0) ((rd_T30 t539 x6_1).f1) ((rd_T30 t539 x6_1).f2)).bind fun t548 => (laws_FnTypes.l0 k1 l0 (wrap64 (x4_1 + t544)) t548 (wrap64 (x6_1 + 1)) t535 t536 t539)) else (laws_FnTypes.l0 k1 l0 (wrap64 (x4_1 + t544)) x5_1 (wrap64 (x6_1 + 1)) t535 t536 t539))) = some r := H
      have A13 := Aside0.mk A130
      clear A130
      replace H := Option.bind_eq_some_iff.mp H
      obtain ⟨t546, A140, H⟩ := H
      replace H : (if t546 > x5_1 then ((impl_DepthOfType.f k1 ((rd_T30 t539 x6_1).f0) ((rd_T30 t539 x6_1).f1) ((rd_T30 t539 x6_1).f2)).bind fun t548 => (laws_FnTypes.l0 k1 l0 (wrap64 (x4_1 + t544)) t548 (wrap64 (x6_1 + 1)) t535 t536 t539)) else (laws_FnTypes.l0 k1 l0 (wrap64 (x4_1 + t544)) x5_1 (wrap64 (x6_1 + 1)) t535 t536 t539)) = some r := H
      have A14 := Aside0.mk A140
      clear A140
      by_cases c15 : t546 > x5_1
      ·rw [if_pos c15] at H
       have c15b0 : decide (x5_1 < t546) = true := decide_eq_true c15
       clear c15
       replace H := Option.bind_eq_some_iff.mp H
       obtain ⟨t548, A160, H⟩ := H
       replace H : (laws_FnTypes.l0 k1 l0 (wrap64 (x4_1 + t544)) t548 (wrap64 (x6_1 + 1)) t535 t536 t539) = some r := H
       have A16 := Aside0.mk A160
       clear A160
       have H' := Aside0.mk H
       clear H
       obtain ⟨hcz17_0, hcz17_1, hcz17_2, hfz17_0, hfz17_1, hfz17_2⟩ := box3_ BK542.out
       have p543 : 0 ≤ (x6_1 : Int) := de_
       have q543 : x6_1 < (t539.length : Int) := de_
       obtain ⟨ad543, A543_1, c543_1, A543_2, c543_2, e543, hx543_0, hx543_1, hx543_2, hl543_1, hi543_1, hl543_2, hi543_2⟩ := at_T30 (Kd.N_reads' HO_543002.out).2.2 x6_1 p543 q543
       cases e543
       obtain ⟨ce543, hce543, hMe543, hcc543⟩ := Kd.N_get HO_543002.out z30 x6_1 p543 (by first | exact q543 | exact de_ | (have e_ := (Kd.N_reads' HO_543002.out).1; omega))
       obtain ⟨ua543_1, uc543_1, ua543_2, uc543_2, rfl, ul543_1, ge543_1, ul543_2, ge543_2⟩ := k30_openF hMe543
       have hv543_1 := hcc543 1 _ rfl
       rw [add_field _ _ 1 (by omega)] at hv543_1
       replace hv543_1 := Option.some.inj (hv543_1.symm.trans hx543_1)
       injection hv543_1 with hva_ hvn_ hvc_
       rw [hva_] at ge543_1
       rw [hvc_] at ul543_1
       have HL543_1 := Aside0.mk (show Kd.V Kd.string 9 _ w.heap.size _ _ ((rd_T30 t539 x6_1).f1) from Kd.V_mk ul543_1 ge543_1)
       clear hva_ hvn_ hvc_ ge543_1 ul543_1
       have hv543_2 := hcc543 2 _ rfl
       rw [add_field _ _ 2 (by omega)] at hv543_2
       replace hv543_2 := Option.some.inj (hv543_2.symm.trans hx543_2)
       injection hv543_2 with hva_ hvn_ hvc_
       rw [hva_] at ge543_2
       rw [hvc_] at ul543_2
       have HL543_2 := Aside0.mk (show Kd.V k30 30 _ w.heap.size _ _ ((rd_T30 t539 x6_1).f2) from Kd.V_mk ul543_2 ge543_2)
       clear hva_ hvn_ hvc_ ge543_2 ul543_2
       clear hcc543 hce543
       have HR543_1 := Aside0.mk hi543_1
       have HC543_1 := Aside0.mk hl543_1
       clear hi543_1 hl543_1
       have HR543_2 := Aside0.mk hi543_2
       have HC543_2 := Aside0.mk hl543_2
       clear hi543_2 hl543_2
       replace p543 := eq_true p543
       replace q543 := eq_true q543
       go_wp2_with (first | ((with_reducible refine gate_callee (f := 16) rfl ?_); refine goesL_ (some 32) rfl rfl Try.func16 (by kernel_rfl) rfl #[.agg #[.int .i64 ((rd_T30 t539 x6_1).f0), .slice A543_1 ((rd_T30 t539 x6_1).f1).length c543_1, .slice A543_2 ((rd_T30 t539 x6_1).f2).length c543_2]] rfl ma_ ?_; (with_reducible refine (impl_SizeOfType.calls k1 ((rd_T30 t539 x6_1).f0) _ _ ((rd_T30 t539 x6_1).f1) _ _ ((rd_T30 t539 x6_1).f2) t544 _ ?side1 ?side2 ?side3 ?side4 A13.out).mono ?_); (case side1 => exact C_ (D_ HR543_1.out)); (case side2 => exact HC543_1.out); (case side3 => exact C_ (D_ HR543_2.out)); (case side4 => exact HC543_2.out); rintro e w18 ⟨rfl, hb⟩; refine ⟨_, rfl, ?_⟩; replace HO_543001 := rb_ HO_543001 hb; replace HO_543002 := nb_ HO_543002 hb; replace HL543_1 := vb_ HL543_1 hb; replace HL543_2 := vb_ HL543_2 hb; replace BK542 := kb_ BK542 hb; replace HR543_1 := Aside0.mk (Kd.C_below (D_ HR543_1.out) hb); replace HR543_2 := Aside0.mk (Kd.C_below (D_ HR543_2.out) hb); replace HB := Aside0.mk (below_step (B1_ HB.out GE542.out) hb); (try clear hb); (try clear hb2); (try clear hk); (try clear hi); obtain ⟨hcz19_0, hcz19_1, hcz19_2, hfz19_0, hfz19_1, hfz19_2⟩ := box3_ BK542.out; have p545 : 0 ≤ (x6_1 : Int) := de_; have q545 : x6_1 < (t539.length : Int) := de_; obtain ⟨ad545, A545_1, c545_1, A545_2, c545_2, e545, hx545_0, hx545_1, hx545_2, hl545_1, hi545_1, hl545_2, hi545_2⟩ := at_T30 (Kd.N_reads' HO_543002.out).2.2 x6_1 p545 q545; obtain rfl : ad543 = ad545 := (by injection e545); obtain ⟨ce545, hce545, hMe545, hcc545⟩ := Kd.N_get HO_543002.out z30 x6_1 p545 (by first | exact q545 | exact de_ | (have e_ := (Kd.N_reads' HO_543002.out).1; omega)); obtain ⟨ua545_1, uc545_1, ua545_2, uc545_2, rfl, ul545_1, ge545_1, ul545_2, ge545_2⟩ := k30_openF hMe545; have hv545_1 := hcc545 1 _ rfl; rw [add_field _ _ 1 (by omega)] at hv545_1; replace hv545_1 := Option.some.inj (hv545_1.symm.trans hx545_1); injection hv545_1 with hva_ hvn_ hvc_; rw [hva_] at ge545_1; rw [hvc_] at ul545_1; have HL545_1 := Aside0.mk (show Kd.V Kd.string 9 _ w.heap.size _ _ ((rd_T30 t539 x6_1).f1) from Kd.V_mk ul545_1 ge545_1); clear hva_ hvn_ hvc_ ge545_1 ul545_1; have hv545_2 := hcc545 2 _ rfl; rw [add_field _ _ 2 (by omega)] at hv545_2; replace hv545_2 := Option.some.inj (hv545_2.symm.trans hx545_2); injection hv545_2 with hva_ hvn_ hvc_; rw [hva_] at ge545_2; rw [hvc_] at ul545_2; have HL545_2 := Aside0.mk (show Kd.V k30 30 _ w.heap.size _ _ ((rd_T30 t539 x6_1).f2) from Kd.V_mk ul545_2 ge545_2); clear hva_ hvn_ hvc_ ge545_2 ul545_2; clear hcc545 hce545; have HR545_1 := Aside0.mk hi545_1; have HC545_1 := Aside0.mk hl545_1; clear hi545_1 hl545_1; have HR545_2 := Aside0.mk hi545_2; have HC545_2 := Aside0.mk hl545_2; clear hi545_2 hl545_2; replace p545 := eq_true p545; replace q545 := eq_true q545) | ((with_reducible refine gate_callee (f := 19) rfl ?_); refine goesL_ (some 39) rfl rfl Try.func19 (by kernel_rfl) rfl #[.agg #[.int .i64 ((rd_T30 t539 x6_1).f0), .slice A545_1 ((rd_T30 t539 x6_1).f1).length c545_1, .slice A545_2 ((rd_T30 t539 x6_1).f2).length c545_2]] rfl ma_ ?_; (with_reducible refine (impl_DepthOfType.calls k1 ((rd_T30 t539 x6_1).f0) _ _ ((rd_T30 t539 x6_1).f1) _ _ ((rd_T30 t539 x6_1).f2) t546 _ ?side1 ?side2 ?side3 ?side4 A14.out).mono ?_); (case side1 => exact C_ (D_ HR545_1.out)); (case side2 => exact HC545_1.out); (case side3 => exact C_ (D_ HR545_2.out)); (case side4 => exact HC545_2.out); rintro e w20 ⟨rfl, hb⟩; refine ⟨_, rfl, ?_⟩; replace HO_543001 := rb_ HO_543001 hb; replace HO_543002 := nb_ HO_543002 hb; replace HL543_1 := vb_ HL543_1 hb; replace HL543_2 := vb_ HL543_2 hb; replace HL545_1 := vb_ HL545_1 hb; replace HL545_2 := vb_ HL545_2 hb; replace BK542 := kb_ BK542 hb; replace HR543_1 := Aside0.mk (Kd.C_below (D_ HR543_1.out) hb); replace HR543_2 := Aside0.mk (Kd.C_below (D_ HR543_2.out) hb); replace HR545_1 := Aside0.mk (Kd.C_below (D_ HR545_1.out) hb); replace HR545_2 := Aside0.mk (Kd.C_below (D_ HR545_2.out) hb); replace HB := Aside0.mk (below_step (B1_ HB.out GE542.out) hb); (try clear hb); (try clear hb2); (try clear hk); (try clear hi); obtain ⟨hcz21_0, hcz21_1, hcz21_2, hfz21_0, hfz21_1, hfz21_2⟩ := box3_ BK542.out; have p547 : 0 ≤ (x6_1 : Int) := de_; have q547 : x6_1 < (t539.length : Int) := de_; obtain ⟨ad547, A547_1, c547_1, A547_2, c547_2, e547, hx547_0, hx547_1, hx547_2, hl547_1, hi547_1, hl547_2, hi547_2⟩ := at_T30 (Kd.N_reads' HO_543002.out).2.2 x6_1 p547 q547; obtain rfl : ad543 = ad547 := (by injection e547); obtain ⟨ce547, hce547, hMe547, hcc547⟩ := Kd.N_get HO_543002.out z30 x6_1 p547 (by first | exact q547 | exact de_ | (have e_ := (Kd.N_reads' HO_543002.out).1; omega)); obtain ⟨ua547_1, uc547_1, ua547_2, uc547_2, rfl, ul547_1, ge547_1, ul547_2, ge547_2⟩ := k30_openF hMe547; have hv547_1 := hcc547 1 _ rfl; rw [add_field _ _ 1 (by omega)] at hv547_1; replace hv547_1 := Option.some.inj (hv547_1.symm.trans hx547_1); injection hv547_1 with hva_ hvn_ hvc_; rw [hva_] at ge547_1; rw [hvc_] at ul547_1; have HL547_1 := Aside0.mk (show Kd.V Kd.string 9 _ w.heap.size _ _ ((rd_T30 t539 x6_1).f1) from Kd.V_mk ul547_1 ge547_1); clear hva_ hvn_ hvc_ ge547_1 ul547_1; have hv547_2 := hcc547 2 _ rfl; rw [add_field _ _ 2 (by omega)] at hv547_2; replace hv547_2 := Option.some.inj (hv547_2.symm.trans hx547_2); injection hv547_2 with hva_ hvn_ hvc_; rw [hva_] at ge547_2; rw [hvc_] at ul547_2; have HL547_2 := Aside0.mk (show Kd.V k30 30 _ w.heap.size _ _ ((rd_T30 t539 x6_1).f2) from Kd.V_mk ul547_2 ge547_2); clear hva_ hvn_ hvc_ ge547_2 ul547_2; clear hcc547 hce547; have HR547_1 := Aside0.mk hi547_1; have HC547_1 := Aside0.mk hl547_1; clear hi547_1 hl547_1; have HR547_2 := Aside0.mk hi547_2; have HC547_2 := Aside0.mk hl547_2; clear hi547_2 hl547_2; replace p547 := eq_true p547; replace q547 := eq_true q547) | ((with_reducible refine gate_callee (f := 19) rfl ?_); refine goesL_ (some 47) rfl rfl Try.func19 (by kernel_rfl) rfl #[.agg #[.int .i64 ((rd_T30 t539 x6_1).f0), .slice A547_1 ((rd_T30 t539 x6_1).f1).length c547_1, .slice A547_2 ((rd_T30 t539 x6_1).f2).length c547_2]] rfl ma_ ?_; (with_reducible refine (impl_DepthOfType.calls k1 ((rd_T30 t539 x6_1).f0) _ _ ((rd_T30 t539 x6_1).f1) _ _ ((rd_T30 t539 x6_1).f2) t548 _ ?side1 ?side2 ?side3 ?side4 A16.out).mono ?_); (case side1 => exact C_ (D_ HR547_1.out)); (case side2 => exact HC547_1.out); (case side3 => exact C_ (D_ HR547_2.out)); (case side4 => exact HC547_2.out); rintro e w22 ⟨rfl, hb⟩; refine ⟨_, rfl, ?_⟩; replace HO_543001 := rb_ HO_543001 hb; replace HO_543002 := nb_ HO_543002 hb; replace HL543_1 := vb_ HL543_1 hb; replace HL543_2 := vb_ HL543_2 hb; replace HL545_1 := vb_ HL545_1 hb; replace HL545_2 := vb_ HL545_2 hb; replace HL547_1 := vb_ HL547_1 hb; replace HL547_2 := vb_ HL547_2 hb; replace BK542 := kb_ BK542 hb; replace HR543_1 := Aside0.mk (Kd.C_below (D_ HR543_1.out) hb); replace HR543_2 := Aside0.mk (Kd.C_below (D_ HR543_2.out) hb); replace HR545_1 := Aside0.mk (Kd.C_below (D_ HR545_1.out) hb); replace HR545_2 := Aside0.mk (Kd.C_below (D_ HR545_2.out) hb); replace HR547_1 := Aside0.mk (Kd.C_below (D_ HR547_1.out) hb); replace HR547_2 := Aside0.mk (Kd.C_below (D_ HR547_2.out) hb); replace HB := Aside0.mk (below_step (B1_ HB.out GE542.out) hb); (try clear hb); (try clear hb2); (try clear hk); (try clear hi)))
       go_roundg k1
       case measure => have := HK1.out; omega
       case rel => exact ⟨(wrap64 (x4_1 + t544)), (t548), (wrap64 (x6_1 + 1)), q_, q_, q_, H', ⟨by have := HK1.out; omega⟩, ⟨R_ HO_543001.out⟩, ⟨N_ HO_543002.out⟩, ⟨K_ BK542.out⟩, ⟨B1_ HB.out GE542.out⟩⟩
      ·rw [if_neg c15] at H
       have c15b0 : decide (x5_1 < t546) = false := decide_eq_false c15
       clear c15
       have H' := Aside0.mk H
       clear H
       obtain ⟨hcz23_0, hcz23_1, hcz23_2, hfz23_0, hfz23_1, hfz23_2⟩ := box3_ BK542.out
       have p543 : 0 ≤ (x6_1 : Int) := de_
       have q543 : x6_1 < (t539.length : Int) := de_
       obtain ⟨ad543, A543_1, c543_1, A543_2, c543_2, e543, hx543_0, hx543_1, hx543_2, hl543_1, hi543_1, hl543_2, hi543_2⟩ := at_T30 (Kd.N_reads' HO_543002.out).2.2 x6_1 p543 q543
       cases e543
       obtain ⟨ce543, hce543, hMe543, hcc543⟩ := Kd.N_get HO_543002.out z30 x6_1 p543 (by first | exact q543 | exact de_ | (have e_ := (Kd.N_reads' HO_543002.out).1; omega))
       obtain ⟨ua543_1, uc543_1, ua543_2, uc543_2, rfl, ul543_1, ge543_1, ul543_2, ge543_2⟩ := k30_openF hMe543
       have hv543_1 := hcc543 1 _ rfl
       rw [add_field _ _ 1 (by omega)] at hv543_1
       replace hv543_1 := Option.some.inj (hv543_1.symm.trans hx543_1)
       injection hv543_1 with hva_ hvn_ hvc_
       rw [hva_] at ge543_1
       rw [hvc_] at ul543_1
       have HL543_1 := Aside0.mk (show Kd.V Kd.string 9 _ w.heap.size _ _ ((rd_T30 t539 x6_1).f1) from Kd.V_mk ul543_1 ge543_1)
       clear hva_ hvn_ hvc_ ge543_1 ul543_1
       have hv543_2 := hcc543 2 _ rfl
       rw [add_field _ _ 2 (by omega)] at hv543_2
       replace hv543_2 := Option.some.inj (hv543_2.symm.trans hx543_2)
       injection hv543_2 with hva_ hvn_ hvc_
       rw [hva_] at ge543_2
       rw [hvc_] at ul543_2
       have HL543_2 := Aside0.mk (show Kd.V k30 30 _ w.heap.size _ _ ((rd_T30 t539 x6_1).f2) from Kd.V_mk ul543_2 ge543_2)
       clear hva_ hvn_ hvc_ ge543_2 ul543_2
       clear hcc543 hce543
       have HR543_1 := Aside0.mk hi543_1
       have HC543_1 := Aside0.mk hl543_1
       clear hi543_1 hl543_1
       have HR543_2 := Aside0.mk hi543_2
       have HC543_2 := Aside0.mk hl543_2
       clear hi543_2 hl543_2
       replace p543 := eq_true p543
       replace q543 := eq_true q543
       go_wp2_with (first | ((with_reducible refine gate_callee (f := 16) rfl ?_); refine goesL_ (some 32) rfl rfl Try.func16 (by kernel_rfl) rfl #[.agg #[.int .i64 ((rd_T30 t539 x6_1).f0), .slice A543_1 ((rd_T30 t539 x6_1).f1).length c543_1, .slice A543_2 ((rd_T30 t539 x6_1).f2).length c543_2]] rfl ma_ ?_; (with_reducible refine (impl_SizeOfType.calls k1 ((rd_T30 t539 x6_1).f0) _ _ ((rd_T30 t539 x6_1).f1) _ _ ((rd_T30 t539 x6_1).f2) t544 _ ?side1 ?side2 ?side3 ?side4 A13.out).mono ?_); (case side1 => exact C_ (D_ HR543_1.out)); (case side2 => exact HC543_1.out); (case side3 => exact C_ (D_ HR543_2.out)); (case side4 => exact HC543_2.out); rintro e w24 ⟨rfl, hb⟩; refine ⟨_, rfl, ?_⟩; replace HO_543001 := rb_ HO_543001 hb; replace HO_543002 := nb_ HO_543002 hb; replace HL543_1 := vb_ HL543_1 hb; replace HL543_2 := vb_ HL543_2 hb; replace BK542 := kb_ BK542 hb; replace HR543_1 := Aside0.mk (Kd.C_below (D_ HR543_1.out) hb); replace HR543_2 := Aside0.mk (Kd.C_below (D_ HR543_2.out) hb); replace HB := Aside0.mk (below_step (B1_ HB.out GE542.out) hb); (try clear hb); (try clear hb2); (try clear hk); (try clear hi); obtain ⟨hcz25_0, hcz25_1, hcz25_2, hfz25_0, hfz25_1, hfz25_2⟩ := box3_ BK542.out; have p545 : 0 ≤ (x6_1 : Int) := de_; have q545 : x6_1 < (t539.length : Int) := de_; obtain ⟨ad545, A545_1, c545_1, A545_2, c545_2, e545, hx545_0, hx545_1, hx545_2, hl545_1, hi545_1, hl545_2, hi545_2⟩ := at_T30 (Kd.N_reads' HO_543002.out).2.2 x6_1 p545 q545; obtain rfl : ad543 = ad545 := (by injection e545); obtain ⟨ce545, hce545, hMe545, hcc545⟩ := Kd.N_get HO_543002.out z30 x6_1 p545 (by first | exact q545 | exact de_ | (have e_ := (Kd.N_reads' HO_543002.out).1; omega)); obtain ⟨ua545_1, uc545_1, ua545_2, uc545_2, rfl, ul545_1, ge545_1, ul545_2, ge545_2⟩ := k30_openF hMe545; have hv545_1 := hcc545 1 _ rfl; rw [add_field _ _ 1 (by omega)] at hv545_1; replace hv545_1 := Option.some.inj (hv545_1.symm.trans hx545_1); injection hv545_1 with hva_ hvn_ hvc_; rw [hva_] at ge545_1; rw [hvc_] at ul545_1; have HL545_1 := Aside0.mk (show Kd.V Kd.string 9 _ w.heap.size _ _ ((rd_T30 t539 x6_1).f1) from Kd.V_mk ul545_1 ge545_1); clear hva_ hvn_ hvc_ ge545_1 ul545_1; have hv545_2 := hcc545 2 _ rfl; rw [add_field _ _ 2 (by omega)] at hv545_2; replace hv545_2 := Option.some.inj (hv545_2.symm.trans hx545_2); injection hv545_2 with hva_ hvn_ hvc_; rw [hva_] at ge545_2; rw [hvc_] at ul545_2; have HL545_2 := Aside0.mk (show Kd.V k30 30 _ w.heap.size _ _ ((rd_T30 t539 x6_1).f2) from Kd.V_mk ul545_2 ge545_2); clear hva_ hvn_ hvc_ ge545_2 ul545_2; clear hcc545 hce545; have HR545_1 := Aside0.mk hi545_1; have HC545_1 := Aside0.mk hl545_1; clear hi545_1 hl545_1; have HR545_2 := Aside0.mk hi545_2; have HC545_2 := Aside0.mk hl545_2; clear hi545_2 hl545_2; replace p545 := eq_true p545; replace q545 := eq_true q545) | ((with_reducible refine gate_callee (f := 19) rfl ?_); refine goesL_ (some 39) rfl rfl Try.func19 (by kernel_rfl) rfl #[.agg #[.int .i64 ((rd_T30 t539 x6_1).f0), .slice A545_1 ((rd_T30 t539 x6_1).f1).length c545_1, .slice A545_2 ((rd_T30 t539 x6_1).f2).length c545_2]] rfl ma_ ?_; (with_reducible refine (impl_DepthOfType.calls k1 ((rd_T30 t539 x6_1).f0) _ _ ((rd_T30 t539 x6_1).f1) _ _ ((rd_T30 t539 x6_1).f2) t546 _ ?side1 ?side2 ?side3 ?side4 A14.out).mono ?_); (case side1 => exact C_ (D_ HR545_1.out)); (case side2 => exact HC545_1.out); (case side3 => exact C_ (D_ HR545_2.out)); (case side4 => exact HC545_2.out); rintro e w26 ⟨rfl, hb⟩; refine ⟨_, rfl, ?_⟩; replace HO_543001 := rb_ HO_543001 hb; replace HO_543002 := nb_ HO_543002 hb; replace HL543_1 := vb_ HL543_1 hb; replace HL543_2 := vb_ HL543_2 hb; replace HL545_1 := vb_ HL545_1 hb; replace HL545_2 := vb_ HL545_2 hb; replace BK542 := kb_ BK542 hb; replace HR543_1 := Aside0.mk (Kd.C_below (D_ HR543_1.out) hb); replace HR543_2 := Aside0.mk (Kd.C_below (D_ HR543_2.out) hb); replace HR545_1 := Aside0.mk (Kd.C_below (D_ HR545_1.out) hb); replace HR545_2 := Aside0.mk (Kd.C_below (D_ HR545_2.out) hb); replace HB := Aside0.mk (below_step (B1_ HB.out GE542.out) hb); (try clear hb); (try clear hb2); (try clear hk); (try clear hi)))
       go_roundg k1
       case measure => have := HK1.out; omega
       case rel => exact ⟨(wrap64 (x4_1 + t544)), (x5_1), (wrap64 (x6_1 + 1)), q_, q_, q_, H', ⟨by have := HK1.out; omega⟩, ⟨R_ HO_543001.out⟩, ⟨N_ HO_543002.out⟩, ⟨K_ BK542.out⟩, ⟨B1_ HB.out GE542.out⟩⟩
     ·rw [if_neg c12] at H
      exact absurd H (by simp)
    ·rw [if_neg c11] at H
     have c11b0 : decide (x6_1 < (t539.length : Int)) = false := decide_eq_false c11
     clear c11
     (first | rw [c11b0] | (simp only [i64_w, i32_w]; rw [c11b0]) | skip)
     replace H := Option.bind_eq_some_iff.mp H
     obtain ⟨⟨t549, t550, t553, t556, t557, t560⟩, A270, H⟩ := H
     replace H : ((spec_DrawPartType.f k1 l0).bind fun bt565 => ((impl_PartType.f k1 bt565.1 bt565.2.1 bt565.2.2.1 bt565.2.2.2).bind fun bt574 => ((spec_PartType.f k1 bt565.1 bt565.2.1 bt565.2.2.1 bt565.2.2.2).bind fun bt583 => ((impl_SizeOfType.f k1 t535 t536 t539).bind fun t592 => (if t592 = x4_1 then ((impl_DepthOfType.f k1 t535 t536 t539).bind fun t593 => (if t593 = (wrap64 (x5_1 + 1)) then ((impl_IsValidType.f k1 t535 t536 t539).bind fun t594 => ((spec_IsValidType.f k1 t535 t536 t539).bind fun t595 => (if (t594 == t595) = true then ((impl_EqualType.f k1 t549 t550 t553 t556 t557 t560).bind fun t596 => ((spec_EqualType.f k1 t549 t550 t553 t556 t557 t560).bind fun t597 => (if (t596 == t597) = true then (if (bt574.2.2.2 == bt583.2.2.2) = true then ((impl_EqualType.f k1 bt574.1 bt574.2.1 bt574.2.2.1 bt583.1 bt583.2.1 bt583.2.2.1).bind fun t598 => (if t598 = true then ((impl_IsUniform.f k1 t535 t536 t539).bind fun t599 => ((spec_IsUniform.f k1 t535 t536 t539).bind fun t600 => (some (t599 == t600)))) else (some false))) else (some false)) else (some false)))) else (some false)))) else (some false))) else (some false)))))) = some r := H
     have A27 := Aside0.mk A270
     clear A270
     replace H := Option.bind_eq_some_iff.mp H
     obtain ⟨⟨t565, t566, t569, t572⟩, A280, H⟩ := H
     replace H : ((impl_PartType.f k1 t565 t566 t569 t572).bind fun bt574 => ((spec_PartType.f k1 t565 t566 t569 t572).bind fun bt583 => ((impl_SizeOfType.f k1 t535 t536 t539).bind fun t592 => (if t592 = x4_1 then ((impl_DepthOfType.f k1 t535 t536 t539).bind fun t593 => (if t593 = (wrap64 (x5_1 + 1)) then ((impl_IsValidType.f k1 t535 t536 t539).bind fun t594 => ((spec_IsValidType.f k1 t535 t536 t539).bind fun t595 => (if (t594 == t595) = true then ((impl_EqualType.f k1 t549 t550 t553 t556 t557 t560).bind fun t596 => ((spec_EqualType.f k1 t549 t550 t553 t556 t557 t560).bind fun t597 => (if (t596 == t597) = true then (if (bt574.2.2.2 == bt583.2.2.2) = true then ((impl_EqualType.f k1 bt574.1 bt574.2.1 bt574.2.2.1 bt583.1 bt583.2.1 bt583.2.2.1).bind fun t598 => (if t598 = true then ((impl_IsUniform.f k1 t535 t536 t539).bind fun t599 => ((spec_IsUniform.f k1 t535 t536 t539).bind fun t600 => (some (t599 == t600)))) else (some false))) else (some false)) else (some false)))) else (some false)))) else (some false))) else (some false))))) = some r := H
     have A28 := Aside0.mk A280
     clear A280
     replace H := Option.bind_eq_some_iff.mp H
     obtain ⟨⟨t574, t575, t578, t581⟩, A290, H⟩ := H
     replace H : ((spec_PartType.f k1 t565 t566 t569 t572).bind fun bt583 => ((impl_SizeOfType.f k1 t535 t536 t539).bind fun t592 => (if t592 = x4_1 then ((impl_DepthOfType.f k1 t535 t536 t539).bind fun t593 => (if t593 = (wrap64 (x5_1 + 1)) then ((impl_IsValidType.f k1 t535 t536 t539).bind fun t594 => ((spec_IsValidType.f k1 t535 t536 t539).bind fun t595 => (if (t594 == t595) = true then ((impl_EqualType.f k1 t549 t550 t553 t556 t557 t560).bind fun t596 => ((spec_EqualType.f k1 t549 t550 t553 t556 t557 t560).bind fun t597 => (if (t596 == t597) = true then (if (t581 == bt583.2.2.2) = true then ((impl_EqualType.f k1 t574 t575 t578 bt583.1 bt583.2.1 bt583.2.2.1).bind fun t598 => (if t598 = true then ((impl_IsUniform.f k1 t535 t536 t539).bind fun t599 => ((spec_IsUniform.f k1 t535 t536 t539).bind fun t600 => (some (t599 == t600)))) else (some false))) else (some false)) else (some false)))) else (some false)))) else (some false))) else (some false)))) = some r := H
     have A29 := Aside0.mk A290
     clear A290
     replace H := Option.bind_eq_some_iff.mp H
     obtain ⟨⟨t583, t584, t587, t590⟩, A300, H⟩ := H
     replace H : ((impl_SizeOfType.f k1 t535 t536 t539).bind fun t592 => (if t592 = x4_1 then ((impl_DepthOfType.f k1 t535 t536 t539).bind fun t593 => (if t593 = (wrap64 (x5_1 + 1)) then ((impl_IsValidType.f k1 t535 t536 t539).bind fun t594 => ((spec_IsValidType.f k1 t535 t536 t539).bind fun t595 => (if (t594 == t595) = true then ((impl_EqualType.f k1 t549 t550 t553 t556 t557 t560).bind fun t596 => ((spec_EqualType.f k1 t549 t550 t553 t556 t557 t560).bind fun t597 => (if (t596 == t597) = true then (if (t581 == t590) = true then ((impl_EqualType.f k1 t574 t575 t578 t583 t584 t587).bind fun t598 => (if t598 = true then ((impl_IsUniform.f k1 t535 t536 t539).bind fun t599 => ((spec_IsUniform.f k1 t535 t536 t539).bind fun t600 => (some (t599 == t600)))) else (some false))) else (some false)) else (some false)))) else (some false)))) else (some false))) else (some false))) = some r := H
     have A30 := Aside0.mk A300
     clear A300
     replace H := Option.bind_eq_some_iff.mp H
     obtain ⟨t592, A310, H⟩ := H
     replace H : (if t592 = x4_1 then ((impl_DepthOfType.f k1 t535 t536 t539).bind fun t593 => (if t593 = (wrap64 (x5_1 + 1)) then ((impl_IsValidType.f k1 t535 t536 t539).bind fun t594 => ((spec_IsValidType.f k1 t535 t536 t539).bind fun t595 => (if (t594 == t595) = true then ((impl_EqualType.f k1 t549 t550 t553 t556 t557 t560).bind fun t596 => ((spec_EqualType.f k1 t549 t550 t553 t556 t557 t560).bind fun t597 => (if (t596 == t597) = true then (if (t581 == t590) = true then ((impl_EqualType.f k1 t574 t575 t578 t583 t584 t587).bind fun t598 => (if t598 = true then ((impl_IsUniform.f k1 t535 t536 t539).bind fun t599 => ((spec_IsUniform.f k1 t535 t536 t539).bind fun t600 => (some (t599 == t600)))) else (some false))) else (some false)) else (some false)))) else (some false)))) else (some false))) else (some false)) = some r := H
     have A31 := Aside0.mk A310
     clear A310
     have HX1 := Aside0.mk H
     clear H
     obtain ⟨hcz46_0, hcz46_1, hcz46_2, hfz46_0, hfz46_1, hfz46_2⟩ := box3_ BK542.out
     try go_wp2_with (first | ((with_reducible refine gate_callee (f := 30) rfl ?_); refine goesL_ (some 50) rfl rfl Try.func30 (by kernel_rfl) rfl #[.slice A0 l0.length c0] rfl ma_ ?_; (with_reducible refine (spec_DrawEqualType.calls k1 _ _ l0 t549 t550 t553 t556 t557 t560 _ ?side1 ?side2 A27.out).mono ?_); (case side1 => exact C_ (Kd.C_below HR0.out HB.out)); (case side2 => exact HC0.out); rintro e w47 ⟨v551, v554, v558, v561, rfl, ho0, ho1, ho2, ho3, hb⟩; refine ⟨_, rfl, ?_⟩; have HO552 := Aside0.mk (Kd.R_lower (Kd.R_new' (Kd.R_mono (ok' := fun k_ => some k_ ≠ (v558 : Value).ownBlock) ho0 (fun _ hk_ => hk_.2)) (Kd.R_lt (R_ HO_543001.out))) (below_size (B1_ HB.out GE542.out))); have HO555 := Aside0.mk (Kd.N_lower (Kd.N_mono (ok' := fun k_ => some k_ ≠ (v551 : Value).ownBlock ∧ some k_ ≠ (v558 : Value).ownBlock ∧ some k_ ≠ (v561 : Value).ownBlock ∧ some k_ ≠ (.slice Ao9 t536.length co9 : Value).ownBlock ∧ some k_ ≠ (.slice Ao10 t539.length co10 : Value).ownBlock ∧ k_ ≠ gb542) ho1 (fun k_ hk_ => ⟨hk_.2.1, hk_.2.2.1, hk_.2.2.2, (Kd.fresh' (Kd.R_lt (R_ HO_543001.out)) k_ hk_.1), (Kd.fresh' (Kd.N_lt (N_ HO_543002.out)) k_ hk_.1), (Kd.freshB (K_ BK542.out) k_ hk_.1)⟩)) (below_size (B1_ HB.out GE542.out))); have HO559 := Aside0.mk (Kd.R_lower (Kd.R_new' (Kd.R_mono (ok' := fun k_ => some k_ ≠ (v551 : Value).ownBlock) ho2 (fun _ hk_ => hk_.2)) (Kd.R_lt (R_ HO_543001.out))) (below_size (B1_ HB.out GE542.out))); have HO562 := Aside0.mk (Kd.N_lower (Kd.N_mono (ok' := fun k_ => some k_ ≠ (v551 : Value).ownBlock ∧ some k_ ≠ (v554 : Value).ownBlock ∧ some k_ ≠ (v558 : Value).ownBlock ∧ some k_ ≠ (.slice Ao9 t536.length co9 : Value).ownBlock ∧ some k_ ≠ (.slice Ao10 t539.length co10 : Value).ownBlock ∧ k_ ≠ gb542) ho3 (fun k_ hk_ => ⟨hk_.2.1, hk_.2.2.1, hk_.2.2.2, (Kd.fresh' (Kd.R_lt (R_ HO_543001.out)) k_ hk_.1), (Kd.fresh' (Kd.N_lt (N_ HO_543002.out)) k_ hk_.1), (Kd.freshB (K_ BK542.out) k_ hk_.1)⟩)) (below_size (B1_ HB.out GE542.out))); replace HO_543001 := Aside0.mk (Kd.R_mono (Kd.R_told (Kd.R_told (Kd.R_old (R_ HO_543001.out) hb) (Kd.R_base ho0)) (Kd.R_base ho2)) (fun _ h_ => h_.1)); replace HO_543002 := Aside0.mk (Kd.N_mono (Kd.N_told (Kd.N_told (Kd.N_told (Kd.N_told (Kd.N_old (N_ HO_543002.out) hb) (Kd.R_base ho0)) (Kd.N_base ho1)) (Kd.R_base ho2)) (Kd.N_base ho3)) (fun _ h_ => h_.1)); replace BK542 := kb_ BK542 hb; replace HB := Aside0.mk (below_step (B1_ HB.out GE542.out) hb); (try clear hb); (try clear hb2); (try clear hk); (try clear hi); (try clear ho0); (try clear ho1); (try clear ho2); (try clear ho3)) | ((with_reducible refine gate_dst (N := 7) rfl ?_); refine box_event ?hg (N := 7) ?hd (cs := #[.int .i64 0, .slice none 0 0, .slice none 0 0]) (t := 30) ?hr ?_; (case hd => rfl); (case hg => rfl); (case hr => first | (go_simp; done) | (go_simp; rfl)); intro gb563 hg w48 hbox hb; replace HO_543001 := rb_ HO_543001 hb; replace HO_543002 := Aside0.mk (Kd.N_below (Kd.N_elderB (N_ HO_543002.out) gb563 (Nat.le_of_eq hg.symm)) hb); replace HO552 := rb_ HO552 hb; replace HO555 := Aside0.mk (Kd.N_below (Kd.N_elderB (N_ HO555.out) gb563 (Nat.le_of_eq hg.symm)) hb); replace HO559 := rb_ HO559 hb; replace HO562 := Aside0.mk (Kd.N_below (Kd.N_elderB (N_ HO562.out) gb563 (Nat.le_of_eq hg.symm)) hb); have BK563 := Aside0.mk (hbox); have GW563 := Aside0.mk ((by rw [hg]; exact (below_size (B1_ HB.out GE542.out)) : w.heap.size ≤ gb563)); have GE563 := Aside0.mk ((by rw [hg]; exact (below_size (B1_ HB.out GE542.out)) : w.heap.size ≤ gb563)); replace HB := Aside0.mk (below_step (B1_ HB.out GE542.out) hb); have NB542_563 := Aside0.mk ((by rw [hg]; exact Nat.ne_of_lt (blk_lt (K_ BK542.out)) : gb542 ≠ gb563)); have NB563_542 := Aside0.mk ((by rw [hg]; exact Nat.ne_of_gt (blk_lt (K_ BK542.out)) : gb563 ≠ gb542)); replace BK542 := kb_ BK542 hb; clear hb hbox hg) | ((with_reducible refine gate_dst (N := 8) rfl ?_); refine box_event ?hg (N := 8) ?hd (cs := #[.int .i64 0, .slice none 0 0, .slice none 0 0]) (t := 30) ?hr ?_; (case hd => rfl); (case hg => rfl); (case hr => first | (go_simp; done) | (go_simp; rfl)); intro gb564 hg w49 hbox hb; replace HO_543001 := rb_ HO_543001 hb; replace HO_543002 := Aside0.mk (Kd.N_below (Kd.N_elderB (N_ HO_543002.out) gb564 (Nat.le_of_eq hg.symm)) hb); replace HO552 := rb_ HO552 hb; replace HO555 := Aside0.mk (Kd.N_below (Kd.N_elderB (N_ HO555.out) gb564 (Nat.le_of_eq hg.symm)) hb); replace HO559 := rb_ HO559 hb; replace HO562 := Aside0.mk (Kd.N_below (Kd.N_elderB (N_ HO562.out) gb564 (Nat.le_of_eq hg.symm)) hb); have BK564 := Aside0.mk (hbox); have GW564 := Aside0.mk ((by rw [hg]; exact (below_size (B2_ HB.out GE542.out GE563.out)) : w.heap.size ≤ gb564)); have GE564 := Aside0.mk ((by rw [hg]; exact (below_size (B2_ HB.out GE542.out GE563.out)) : w.heap.size ≤ gb564)); replace HB := Aside0.mk (below_step (B2_ HB.out GE542.out GE563.out) hb); have NB542_564 := Aside0.mk ((by rw [hg]; exact Nat.ne_of_lt (blk_lt (K_ BK542.out)) : gb542 ≠ gb564)); have NB564_542 := Aside0.mk ((by rw [hg]; exact Nat.ne_of_gt (blk_lt (K_ BK542.out)) : gb564 ≠ gb542)); replace BK542 := kb_ BK542 hb; have NB563_564 := Aside0.mk ((by rw [hg]; exact Nat.ne_of_lt (blk_lt (K_ BK563.out)) : gb563 ≠ gb564)); have NB564_563 := Aside0.mk ((by rw [hg]; exact Nat.ne_of_gt (blk_lt (K_ BK563.out)) : gb564 ≠ gb563)); replace BK563 := kb_ BK563 hb; clear hb hbox hg; have hnb50 := NB563_542.out; have hnc50 := NB542_563.out; have hnb51 := NB563_564.out; have hnc51 := NB564_563.out; obtain ⟨hcz52_0, hcz52_1, hcz52_2, hfz52_0, hfz52_1, hfz52_2⟩ := box3_ BK563.out; obtain ⟨Ao53, co53, eo53⟩ := Kd.R_slice HO552.out; subst eo53; obtain ⟨Ao54, co54, eo54⟩ := Kd.N_slice HO555.out; subst eo54; have hnb55 := NB564_542.out; have hnc55 := NB542_564.out; obtain ⟨hcz56_0, hcz56_1, hcz56_2, hfz56_0, hfz56_1, hfz56_2⟩ := box3_ BK564.out; obtain ⟨Ao57, co57, eo57⟩ := Kd.R_slice HO559.out; subst eo57; obtain ⟨Ao58, co58, eo58⟩ := Kd.N_slice HO562.out; subst eo58) | ((with_reducible refine gate_callee (f := 31) rfl ?_); refine goesL_ (some 55) rfl rfl Try.func31 (by kernel_rfl) rfl #[.slice A0 l0.length c0] rfl ma_ ?_; (with_reducible refine (spec_DrawPartType.calls k1 _ _ l0 t565 t566 t569 t572 _ ?side1 ?side2 A28.out).mono ?_); (case side1 => exact Kd.C_below HR0.out (B3_ HB.out GE542.out GE563.out GE564.out)); (case side2 => exact HC0.out); rintro e w59 ⟨v567, v570, rfl, ho0, ho1, hb⟩; refine ⟨_, rfl, ?_⟩; have HO568 := Aside0.mk (Kd.R_lower (Kd.R_new' (Kd.R_new' (Kd.R_new' (Kd.R_mono (ok' := fun k_ => True) ho0 (fun _ hk_ => trivial)) (Kd.R_lt (by (with_reducible repeat (first | apply Kd.R_alloc | apply Kd.R_drewN | apply Kd.R_drew)); exact (Kd.R_mono (Kd.R_mono (Kd.R_far (p := ⟨gb564, 2, none⟩) (Kd.R_far (p := ⟨gb564, 1, none⟩) (Kd.R_far (p := ⟨gb564, 0, none⟩) (Kd.R_far (p := ⟨gb563, 2, none⟩) (Kd.R_far (p := ⟨gb563, 1, none⟩) (Kd.R_far (p := ⟨gb563, 0, none⟩) (Kd.R_types (Kd.R_types HO_543001.out BK563.out (by decide)) BK564.out (by decide)) (fun _ hk => hk.1.2) (.int .i64 t549)) (fun _ hk => hk.1.2) (.slice Ao53 t550.length co53)) (fun _ hk => hk.1.2) (.slice Ao54 t553.length co54)) (fun _ hk => hk.2) (.int .i64 t556)) (fun _ hk => hk.2) (.slice Ao57 t557.length co57)) (fun _ hk => hk.2) (.slice Ao58 t560.length co58)) (fun _ h_ => h_.1)) (fun _ h_ => h_.1))))) (Kd.R_lt (by (with_reducible repeat (first | apply Kd.R_alloc | apply Kd.R_drewN | apply Kd.R_drew)); exact (Kd.R_mono (Kd.R_mono (Kd.R_far (p := ⟨gb564, 2, none⟩) (Kd.R_far (p := ⟨gb564, 1, none⟩) (Kd.R_far (p := ⟨gb564, 0, none⟩) (Kd.R_far (p := ⟨gb563, 2, none⟩) (Kd.R_far (p := ⟨gb563, 1, none⟩) (Kd.R_far (p := ⟨gb563, 0, none⟩) (Kd.R_types (Kd.R_types HO552.out BK563.out (by decide)) BK564.out (by decide)) (fun _ hk => hk.1.2) (.int .i64 t549)) (fun _ hk => hk.1.2) (.slice Ao53 t550.length co53)) (fun _ hk => hk.1.2) (.slice Ao54 t553.length co54)) (fun _ hk => hk.2) (.int .i64 t556)) (fun _ hk => hk.2) (.slice Ao57 t557.length co57)) (fun _ hk => hk.2) (.slice Ao58 t560.length co58)) (fun _ h_ => h_.1)) (fun _ h_ => h_.1))))) (Kd.R_lt (by (with_reducible repeat (first | apply Kd.R_alloc | apply Kd.R_drewN | apply Kd.R_drew)); exact (Kd.R_mono (Kd.R_mono (Kd.R_far (p := ⟨gb564, 2, none⟩) (Kd.R_far (p := ⟨gb564, 1, none⟩) (Kd.R_far (p := ⟨gb564, 0, none⟩) (Kd.R_far (p := ⟨gb563, 2, none⟩) (Kd.R_far (p := ⟨gb563, 1, none⟩) (Kd.R_far (p := ⟨gb563, 0, none⟩) (Kd.R_types (Kd.R_types HO559.out BK563.out (by decide)) BK564.out (by decide)) (fun _ hk => hk.1.2) (.int .i64 t549)) (fun _ hk => hk.1.2) (.slice Ao53 t550.length co53)) (fun _ hk => hk.1.2) (.slice Ao54 t553.length co54)) (fun _ hk => hk.2) (.int .i64 t556)) (fun _ hk => hk.2) (.slice Ao57 t557.length co57)) (fun _ hk => hk.2) (.slice Ao58 t560.length co58)) (fun _ h_ => h_.1)) (fun _ h_ => h_.1))))) (below_size (B3_ HB.out GE542.out GE563.out GE564.out))); have HO571 := Aside0.mk (Kd.N_lower (Kd.N_mono (ok' := fun k_ => some k_ ≠ (v567 : Value).ownBlock ∧ some k_ ≠ (.slice Ao9 t536.length co9 : Value).ownBlock ∧ some k_ ≠ (.slice Ao10 t539.length co10 : Value).ownBlock ∧ some k_ ≠ (.slice Ao53 t550.length co53 : Value).ownBlock ∧ some k_ ≠ (.slice Ao54 t553.length co54 : Value).ownBlock ∧ some k_ ≠ (.slice Ao57 t557.length co57 : Value).ownBlock ∧ some k_ ≠ (.slice Ao58 t560.length co58 : Value).ownBlock ∧ k_ ≠ gb542 ∧ k_ ≠ gb563 ∧ k_ ≠ gb564) ho1 (fun k_ hk_ => ⟨hk_.2, (Kd.fresh' (Kd.R_lt (by (with_reducible repeat (first | apply Kd.R_alloc | apply Kd.R_drewN | apply Kd.R_drew)); exact (Kd.R_mono (Kd.R_mono (Kd.R_far (p := ⟨gb564, 2, none⟩) (Kd.R_far (p := ⟨gb564, 1, none⟩) (Kd.R_far (p := ⟨gb564, 0, none⟩) (Kd.R_far (p := ⟨gb563, 2, none⟩) (Kd.R_far (p := ⟨gb563, 1, none⟩) (Kd.R_far (p := ⟨gb563, 0, none⟩) (Kd.R_types (Kd.R_types HO_543001.out BK563.out (by decide)) BK564.out (by decide)) (fun _ hk => hk.1.2) (.int .i64 t549)) (fun _ hk => hk.1.2) (.slice Ao53 t550.length co53)) (fun _ hk => hk.1.2) (.slice Ao54 t553.length co54)) (fun _ hk => hk.2) (.int .i64 t556)) (fun _ hk => hk.2) (.slice Ao57 t557.length co57)) (fun _ hk => hk.2) (.slice Ao58 t560.length co58)) (fun _ h_ => h_.1)) (fun _ h_ => h_.1)))) k_ hk_.1), (Kd.fresh' (Kd.N_lt (by (with_reducible repeat (first | apply Kd.N_alloc | apply Kd.N_drewN | apply Kd.N_drew)); exact (Kd.N_mono (Kd.N_mono (Kd.N_far (p := ⟨gb564, 2, none⟩) (Kd.N_far (p := ⟨gb564, 1, none⟩) (Kd.N_far (p := ⟨gb564, 0, none⟩) (Kd.N_far (p := ⟨gb563, 2, none⟩) (Kd.N_far (p := ⟨gb563, 1, none⟩) (Kd.N_far (p := ⟨gb563, 0, none⟩) (Kd.N_mono (Kd.N_mono HO_543002.out (fun k_ hk => (⟨hk, hk.1.2⟩ : _ ∧ k_ ≠ gb563))) (fun k_ hk => (⟨hk, hk.1.2⟩ : _ ∧ k_ ≠ gb564))) (fun _ hk => hk.1.2) (.int .i64 t549)) (fun _ hk => hk.1.2) (.slice Ao53 t550.length co53)) (fun _ hk => hk.1.2) (.slice Ao54 t553.length co54)) (fun _ hk => hk.2) (.int .i64 t556)) (fun _ hk => hk.2) (.slice Ao57 t557.length co57)) (fun _ hk => hk.2) (.slice Ao58 t560.length co58)) (fun _ h_ => h_.1)) (fun _ h_ => h_.1)))) k_ hk_.1), (Kd.fresh' (Kd.R_lt (by (with_reducible repeat (first | apply Kd.R_alloc | apply Kd.R_drewN | apply Kd.R_drew)); exact (Kd.R_mono (Kd.R_mono (Kd.R_far (p := ⟨gb564, 2, none⟩) (Kd.R_far (p := ⟨gb564, 1, none⟩) (Kd.R_far (p := ⟨gb564, 0, none⟩) (Kd.R_far (p := ⟨gb563, 2, none⟩) (Kd.R_far (p := ⟨gb563, 1, none⟩) (Kd.R_far (p := ⟨gb563, 0, none⟩) (Kd.R_types (Kd.R_types HO552.out BK563.out (by decide)) BK564.out (by decide)) (fun _ hk => hk.1.2) (.int .i64 t549)) (fun _ hk => hk.1.2) (.slice Ao53 t550.length co53)) (fun _ hk => hk.1.2) (.slice Ao54 t553.length co54)) (fun _ hk => hk.2) (.int .i64 t556)) (fun _ hk => hk.2) (.slice Ao57 t557.length co57)) (fun _ hk => hk.2) (.slice Ao58 t560.length co58)) (fun _ h_ => h_.1)) (fun _ h_ => h_.1)))) k_ hk_.1), (Kd.fresh' (Kd.N_lt (by (with_reducible repeat (first | apply Kd.N_alloc | apply Kd.N_drewN | apply Kd.N_drew)); exact (Kd.N_mono (Kd.N_mono (Kd.N_far (p := ⟨gb564, 2, none⟩) (Kd.N_far (p := ⟨gb564, 1, none⟩) (Kd.N_far (p := ⟨gb564, 0, none⟩) (Kd.N_far (p := ⟨gb563, 2, none⟩) (Kd.N_far (p := ⟨gb563, 1, none⟩) (Kd.N_far (p := ⟨gb563, 0, none⟩) (Kd.N_mono (Kd.N_mono HO555.out (fun k_ hk => (⟨hk, hk.1.2⟩ : _ ∧ k_ ≠ gb563))) (fun k_ hk => (⟨hk, hk.1.2⟩ : _ ∧ k_ ≠ gb564))) (fun _ hk => hk.1.2) (.int .i64 t549)) (fun _ hk => hk.1.2) (.slice Ao53 t550.length co53)) (fun _ hk => hk.1.2) (.slice Ao54 t553.length co54)) (fun _ hk => hk.2) (.int .i64 t556)) (fun _ hk => hk.2) (.slice Ao57 t557.length co57)) (fun _ hk => hk.2) (.slice Ao58 t560.length co58)) (fun _ h_ => h_.1)) (fun _ h_ => h_.1)))) k_ hk_.1), (Kd.fresh' (Kd.R_lt (by (with_reducible repeat (first | apply Kd.R_alloc | apply Kd.R_drewN | apply Kd.R_drew)); exact (Kd.R_mono (Kd.R_mono (Kd.R_far (p := ⟨gb564, 2, none⟩) (Kd.R_far (p := ⟨gb564, 1, none⟩) (Kd.R_far (p := ⟨gb564, 0, none⟩) (Kd.R_far (p := ⟨gb563, 2, none⟩) (Kd.R_far (p := ⟨gb563, 1, none⟩) (Kd.R_far (p := ⟨gb563, 0, none⟩) (Kd.R_types (Kd.R_types HO559.out BK563.out (by decide)) BK564.out (by decide)) (fun _ hk => hk.1.2) (.int .i64 t549)) (fun _ hk => hk.1.2) (.slice Ao53 t550.length co53)) (fun _ hk => hk.1.2) (.slice Ao54 t553.length co54)) (fun _ hk => hk.2) (.int .i64 t556)) (fun _ hk => hk.2) (.slice Ao57 t557.length co57)) (fun _ hk => hk.2) (.slice Ao58 t560.length co58)) (fun _ h_ => h_.1)) (fun _ h_ => h_.1)))) k_ hk_.1), (Kd.fresh' (Kd.N_lt (by (with_reducible repeat (first | apply Kd.N_alloc | apply Kd.N_drewN | apply Kd.N_drew)); exact (Kd.N_mono (Kd.N_mono (Kd.N_far (p := ⟨gb564, 2, none⟩) (Kd.N_far (p := ⟨gb564, 1, none⟩) (Kd.N_far (p := ⟨gb564, 0, none⟩) (Kd.N_far (p := ⟨gb563, 2, none⟩) (Kd.N_far (p := ⟨gb563, 1, none⟩) (Kd.N_far (p := ⟨gb563, 0, none⟩) (Kd.N_mono (Kd.N_mono HO562.out (fun k_ hk => (⟨hk, hk.1.2⟩ : _ ∧ k_ ≠ gb563))) (fun k_ hk => (⟨hk, hk.1.2⟩ : _ ∧ k_ ≠ gb564))) (fun _ hk => hk.1.2) (.int .i64 t549)) (fun _ hk => hk.1.2) (.slice Ao53 t550.length co53)) (fun _ hk => hk.1.2) (.slice Ao54 t553.length co54)) (fun _ hk => hk.2) (.int .i64 t556)) (fun _ hk => hk.2) (.slice Ao57 t557.length co57)) (fun _ hk => hk.2) (.slice Ao58 t560.length co58)) (fun _ h_ => h_.1)) (fun _ h_ => h_.1)))) k_ hk_.1), (Kd.freshB (g := gb542) (o := .cells #[.int .i64 t535, .slice Ao9 t536.length co9, .slice Ao10 t539.length co10] 30 (0, 0)) (by (with_reducible repeat (first | refine blk_drewN ?_ _ | refine blk_drew ?_ | refine blk_alloc ?_ _)); refine blk_far ?_ NB542_564.out _; (with_reducible repeat (first | refine blk_drewN ?_ _ | refine blk_drew ?_ | refine blk_alloc ?_ _)); refine blk_far ?_ NB542_564.out _; (with_reducible repeat (first | refine blk_drewN ?_ _ | refine blk_drew ?_ | refine blk_alloc ?_ _)); refine blk_far ?_ NB542_564.out _; (with_reducible repeat (first | refine blk_drewN ?_ _ | refine blk_drew ?_ | refine blk_alloc ?_ _)); refine blk_far ?_ NB542_563.out _; (with_reducible repeat (first | refine blk_drewN ?_ _ | refine blk_drew ?_ | refine blk_alloc ?_ _)); refine blk_far ?_ NB542_563.out _; (with_reducible repeat (first | refine blk_drewN ?_ _ | refine blk_drew ?_ | refine blk_alloc ?_ _)); refine blk_far ?_ NB542_563.out _; (with_reducible repeat (first | refine blk_drewN ?_ _ | refine blk_drew ?_ | refine blk_alloc ?_ _)); exact BK542.out) k_ hk_.1), (Kd.freshB (g := gb563) (o := .cells #[.int .i64 t549, .slice Ao53 t550.length co53, .slice Ao54 t553.length co54] 30 (0, 0)) (by (with_reducible repeat (first | refine blk_drewN ?_ _ | refine blk_drew ?_ | refine blk_alloc ?_ _)); refine blk_far ?_ NB563_564.out _; (with_reducible repeat (first | refine blk_drewN ?_ _ | refine blk_drew ?_ | refine blk_alloc ?_ _)); refine blk_far ?_ NB563_564.out _; (with_reducible repeat (first | refine blk_drewN ?_ _ | refine blk_drew ?_ | refine blk_alloc ?_ _)); refine blk_far ?_ NB563_564.out _; (with_reducible repeat (first | refine blk_drewN ?_ _ | refine blk_drew ?_ | refine blk_alloc ?_ _)); refine blk_put (cs := #[.int .i64 t549, .slice Ao53 t550.length co53, .slice none 0 0]) ?_ 2 _ rfl; (with_reducible repeat (first | refine blk_drewN ?_ _ | refine blk_drew ?_ | refine blk_alloc ?_ _)); refine blk_put (cs := #[.int .i64 t549, .slice none 0 0, .slice none 0 0]) ?_ 1 _ rfl; (with_reducible repeat (first | refine blk_drewN ?_ _ | refine blk_drew ?_ | refine blk_alloc ?_ _)); refine blk_put (cs := #[.int .i64 0, .slice none 0 0, .slice none 0 0]) ?_ 0 _ rfl; (with_reducible repeat (first | refine blk_drewN ?_ _ | refine blk_drew ?_ | refine blk_alloc ?_ _)); exact BK563.out) k_ hk_.1), (Kd.freshB (g := gb564) (o := .cells #[.int .i64 t556, .slice Ao57 t557.length co57, .slice Ao58 t560.length co58] 30 (0, 0)) (by (with_reducible repeat (first | refine blk_drewN ?_ _ | refine blk_drew ?_ | refine blk_alloc ?_ _)); refine blk_put (cs := #[.int .i64 t556, .slice Ao57 t557.length co57, .slice none 0 0]) ?_ 2 _ rfl; (with_reducible repeat (first | refine blk_drewN ?_ _ | refine blk_drew ?_ | refine blk_alloc ?_ _)); refine blk_put (cs := #[.int .i64 t556, .slice none 0 0, .slice none 0 0]) ?_ 1 _ rfl; (with_reducible repeat (first | refine blk_drewN ?_ _ | refine blk_drew ?_ | refine blk_alloc ?_ _)); refine blk_put (cs := #[.int .i64 0, .slice none 0 0, .slice none 0 0]) ?_ 0 _ rfl; (with_reducible repeat (first | refine blk_drewN ?_ _ | refine blk_drew ?_ | refine blk_alloc ?_ _)); refine blk_far ?_ NB564_563.out _; (with_reducible repeat (first | refine blk_drewN ?_ _ | refine blk_drew ?_ | refine blk_alloc ?_ _)); refine blk_far ?_ NB564_563.out _; (with_reducible repeat (first | refine blk_drewN ?_ _ | refine blk_drew ?_ | refine blk_alloc ?_ _)); refine blk_far ?_ NB564_563.out _; (with_reducible repeat (first | refine blk_drewN ?_ _ | refine blk_drew ?_ | refine blk_alloc ?_ _)); exact BK564.out) k_ hk_.1)⟩)) (below_size (B3_ HB.out GE542.out GE563.out GE564.out))); replace HO_543001 := Aside0.mk (Kd.R_elder' (by (with_reducible repeat (first | apply Kd.R_alloc | apply Kd.R_drewN | apply Kd.R_drew)); exact (Kd.R_mono (Kd.R_mono (Kd.R_far (p := ⟨gb564, 2, none⟩) (Kd.R_far (p := ⟨gb564, 1, none⟩) (Kd.R_far (p := ⟨gb564, 0, none⟩) (Kd.R_far (p := ⟨gb563, 2, none⟩) (Kd.R_far (p := ⟨gb563, 1, none⟩) (Kd.R_far (p := ⟨gb563, 0, none⟩) (Kd.R_types (Kd.R_types HO_543001.out BK563.out (by decide)) BK564.out (by decide)) (fun _ hk => hk.1.2) (.int .i64 t549)) (fun _ hk => hk.1.2) (.slice Ao53 t550.length co53)) (fun _ hk => hk.1.2) (.slice Ao54 t553.length co54)) (fun _ hk => hk.2) (.int .i64 t556)) (fun _ hk => hk.2) (.slice Ao57 t557.length co57)) (fun _ hk => hk.2) (.slice Ao58 t560.length co58)) (fun _ h_ => h_.1)) (fun _ h_ => h_.1))) (Kd.R_base ho0) hb); replace HO_543002 := Aside0.mk (Kd.N_mono (Kd.N_told (Kd.N_told (Kd.N_old (by (with_reducible repeat (first | apply Kd.N_alloc | apply Kd.N_drewN | apply Kd.N_drew)); exact (Kd.N_mono (Kd.N_mono (Kd.N_far (p := ⟨gb564, 2, none⟩) (Kd.N_far (p := ⟨gb564, 1, none⟩) (Kd.N_far (p := ⟨gb564, 0, none⟩) (Kd.N_far (p := ⟨gb563, 2, none⟩) (Kd.N_far (p := ⟨gb563, 1, none⟩) (Kd.N_far (p := ⟨gb563, 0, none⟩) (Kd.N_mono (Kd.N_mono HO_543002.out (fun k_ hk => (⟨hk, hk.1.2⟩ : _ ∧ k_ ≠ gb563))) (fun k_ hk => (⟨hk, hk.1.2⟩ : _ ∧ k_ ≠ gb564))) (fun _ hk => hk.1.2) (.int .i64 t549)) (fun _ hk => hk.1.2) (.slice Ao53 t550.length co53)) (fun _ hk => hk.1.2) (.slice Ao54 t553.length co54)) (fun _ hk => hk.2) (.int .i64 t556)) (fun _ hk => hk.2) (.slice Ao57 t557.length co57)) (fun _ hk => hk.2) (.slice Ao58 t560.length co58)) (fun _ h_ => h_.1)) (fun _ h_ => h_.1))) hb) (Kd.R_base ho0)) (Kd.N_base ho1)) (fun _ h_ => h_.1)); replace HO552 := Aside0.mk (Kd.R_elder' (by (with_reducible repeat (first | apply Kd.R_alloc | apply Kd.R_drewN | apply Kd.R_drew)); exact (Kd.R_mono (Kd.R_mono (Kd.R_far (p := ⟨gb564, 2, none⟩) (Kd.R_far (p := ⟨gb564, 1, none⟩) (Kd.R_far (p := ⟨gb564, 0, none⟩) (Kd.R_far (p := ⟨gb563, 2, none⟩) (Kd.R_far (p := ⟨gb563, 1, none⟩) (Kd.R_far (p := ⟨gb563, 0, none⟩) (Kd.R_types (Kd.R_types HO552.out BK563.out (by decide)) BK564.out (by decide)) (fun _ hk => hk.1.2) (.int .i64 t549)) (fun _ hk => hk.1.2) (.slice Ao53 t550.length co53)) (fun _ hk => hk.1.2) (.slice Ao54 t553.length co54)) (fun _ hk => hk.2) (.int .i64 t556)) (fun _ hk => hk.2) (.slice Ao57 t557.length co57)) (fun _ hk => hk.2) (.slice Ao58 t560.length co58)) (fun _ h_ => h_.1)) (fun _ h_ => h_.1))) (Kd.R_base ho0) hb); replace HO555 := Aside0.mk (Kd.N_mono (Kd.N_told (Kd.N_told (Kd.N_old (by (with_reducible repeat (first | apply Kd.N_alloc | apply Kd.N_drewN | apply Kd.N_drew)); exact (Kd.N_mono (Kd.N_mono (Kd.N_far (p := ⟨gb564, 2, none⟩) (Kd.N_far (p := ⟨gb564, 1, none⟩) (Kd.N_far (p := ⟨gb564, 0, none⟩) (Kd.N_far (p := ⟨gb563, 2, none⟩) (Kd.N_far (p := ⟨gb563, 1, none⟩) (Kd.N_far (p := ⟨gb563, 0, none⟩) (Kd.N_mono (Kd.N_mono HO555.out (fun k_ hk => (⟨hk, hk.1.2⟩ : _ ∧ k_ ≠ gb563))) (fun k_ hk => (⟨hk, hk.1.2⟩ : _ ∧ k_ ≠ gb564))) (fun _ hk => hk.1.2) (.int .i64 t549)) (fun _ hk => hk.1.2) (.slice Ao53 t550.length co53)) (fun _ hk => hk.1.2) (.slice Ao54 t553.length co54)) (fun _ hk => hk.2) (.int .i64 t556)) (fun _ hk => hk.2) (.slice Ao57 t557.length co57)) (fun _ hk => hk.2) (.slice Ao58 t560.length co58)) (fun _ h_ => h_.1)) (fun _ h_ => h_.1))) hb) (Kd.R_base ho0)) (Kd.N_base ho1)) (fun _ h_ => h_.1)); replace HO559 := Aside0.mk (Kd.R_elder' (by (with_reducible repeat (first | apply Kd.R_alloc | apply Kd.R_drewN | apply Kd.R_drew)); exact (Kd.R_mono (Kd.R_mono (Kd.R_far (p := ⟨gb564, 2, none⟩) (Kd.R_far (p := ⟨gb564, 1, none⟩) (Kd.R_far (p := ⟨gb564, 0, none⟩) (Kd.R_far (p := ⟨gb563, 2, none⟩) (Kd.R_far (p := ⟨gb563, 1, none⟩) (Kd.R_far (p := ⟨gb563, 0, none⟩) (Kd.R_types (Kd.R_types HO559.out BK563.out (by decide)) BK564.out (by decide)) (fun _ hk => hk.1.2) (.int .i64 t549)) (fun _ hk => hk.1.2) (.slice Ao53 t550.length co53)) (fun _ hk => hk.1.2) (.slice Ao54 t553.length co54)) (fun _ hk => hk.2) (.int .i64 t556)) (fun _ hk => hk.2) (.slice Ao57 t557.length co57)) (fun _ hk => hk.2) (.slice Ao58 t560.length co58)) (fun _ h_ => h_.1)) (fun _ h_ => h_.1))) (Kd.R_base ho0) hb); replace HO562 := Aside0.mk (Kd.N_mono (Kd.N_told (Kd.N_told (Kd.N_old (by (with_reducible repeat (first | apply Kd.N_alloc | apply Kd.N_drewN | apply Kd.N_drew)); exact (Kd.N_mono (Kd.N_mono (Kd.N_far (p := ⟨gb564, 2, none⟩) (Kd.N_far (p := ⟨gb564, 1, none⟩) (Kd.N_far (p := ⟨gb564, 0, none⟩) (Kd.N_far (p := ⟨gb563, 2, none⟩) (Kd.N_far (p := ⟨gb563, 1, none⟩) (Kd.N_far (p := ⟨gb563, 0, none⟩) (Kd.N_mono (Kd.N_mono HO562.out (fun k_ hk => (⟨hk, hk.1.2⟩ : _ ∧ k_ ≠ gb563))) (fun k_ hk => (⟨hk, hk.1.2⟩ : _ ∧ k_ ≠ gb564))) (fun _ hk => hk.1.2) (.int .i64 t549)) (fun _ hk => hk.1.2) (.slice Ao53 t550.length co53)) (fun _ hk => hk.1.2) (.slice Ao54 t553.length co54)) (fun _ hk => hk.2) (.int .i64 t556)) (fun _ hk => hk.2) (.slice Ao57 t557.length co57)) (fun _ hk => hk.2) (.slice Ao58 t560.length co58)) (fun _ h_ => h_.1)) (fun _ h_ => h_.1))) hb) (Kd.R_base ho0)) (Kd.N_base ho1)) (fun _ h_ => h_.1)); replace BK542 := Aside0.mk (blk_below (g := gb542) (o := .cells #[.int .i64 t535, .slice Ao9 t536.length co9, .slice Ao10 t539.length co10] 30 (0, 0)) (by (with_reducible repeat (first | refine blk_drewN ?_ _ | refine blk_drew ?_ | refine blk_alloc ?_ _)); refine blk_far ?_ NB542_564.out _; (with_reducible repeat (first | refine blk_drewN ?_ _ | refine blk_drew ?_ | refine blk_alloc ?_ _)); refine blk_far ?_ NB542_564.out _; (with_reducible repeat (first | refine blk_drewN ?_ _ | refine blk_drew ?_ | refine blk_alloc ?_ _)); refine blk_far ?_ NB542_564.out _; (with_reducible repeat (first | refine blk_drewN ?_ _ | refine blk_drew ?_ | refine blk_alloc ?_ _)); refine blk_far ?_ NB542_563.out _; (with_reducible repeat (first | refine blk_drewN ?_ _ | refine blk_drew ?_ | refine blk_alloc ?_ _)); refine blk_far ?_ NB542_563.out _; (with_reducible repeat (first | refine blk_drewN ?_ _ | refine blk_drew ?_ | refine blk_alloc ?_ _)); refine blk_far ?_ NB542_563.out _; (with_reducible repeat (first | refine blk_drewN ?_ _ | refine blk_drew ?_ | refine blk_alloc ?_ _)); exact BK542.out) hb); replace BK563 := Aside0.mk (blk_below (g := gb563) (o := .cells #[.int .i64 t549, .slice Ao53 t550.length co53, .slice Ao54 t553.length co54] 30 (0, 0)) (by (with_reducible repeat (first | refine blk_drewN ?_ _ | refine blk_drew ?_ | refine blk_alloc ?_ _)); refine blk_far ?_ NB563_564.out _; (with_reducible repeat (first | refine blk_drewN ?_ _ | refine blk_drew ?_ | refine blk_alloc ?_ _)); refine blk_far ?_ NB563_564.out _; (with_reducible repeat (first | refine blk_drewN ?_ _ | refine blk_drew ?_ | refine blk_alloc ?_ _)); refine blk_far ?_ NB563_564.out _; (with_reducible repeat (first | refine blk_drewN ?_ _ | refine blk_drew ?_ | refine blk_alloc ?_ _)); refine blk_put (cs := #[.int .i64 t549, .slice Ao53 t550.length co53, .slice none 0 0]) ?_ 2 _ rfl; (with_reducible repeat (first | refine blk_drewN ?_ _ | refine blk_drew ?_ | refine blk_alloc ?_ _)); refine blk_put (cs := #[.int .i64 t549, .slice none 0 0, .slice none 0 0]) ?_ 1 _ rfl; (with_reducible repeat (first | refine blk_drewN ?_ _ | refine blk_drew ?_ | refine blk_alloc ?_ _)); refine blk_put (cs := #[.int .i64 0, .slice none 0 0, .slice none 0 0]) ?_ 0 _ rfl; (with_reducible repeat (first | refine blk_drewN ?_ _ | refine blk_drew ?_ | refine blk_alloc ?_ _)); exact BK563.out) hb); replace BK564 := Aside0.mk (blk_below (g := gb564) (o := .cells #[.int .i64 t556, .slice Ao57 t557.length co57, .slice Ao58 t560.length co58] 30 (0, 0)) (by (with_reducible repeat (first | refine blk_drewN ?_ _ | refine blk_drew ?_ | refine blk_alloc ?_ _)); refine blk_put (cs := #[.int .i64 t556, .slice Ao57 t557.length co57, .slice none 0 0]) ?_ 2 _ rfl; (with_reducible repeat (first | refine blk_drewN ?_ _ | refine blk_drew ?_ | refine blk_alloc ?_ _)); refine blk_put (cs := #[.int .i64 t556, .slice none 0 0, .slice none 0 0]) ?_ 1 _ rfl; (with_reducible repeat (first | refine blk_drewN ?_ _ | refine blk_drew ?_ | refine blk_alloc ?_ _)); refine blk_put (cs := #[.int .i64 0, .slice none 0 0, .slice none 0 0]) ?_ 0 _ rfl; (with_reducible repeat (first | refine blk_drewN ?_ _ | refine blk_drew ?_ | refine blk_alloc ?_ _)); refine blk_far ?_ NB564_563.out _; (with_reducible repeat (first | refine blk_drewN ?_ _ | refine blk_drew ?_ | refine blk_alloc ?_ _)); refine blk_far ?_ NB564_563.out _; (with_reducible repeat (first | refine blk_drewN ?_ _ | refine blk_drew ?_ | refine blk_alloc ?_ _)); refine blk_far ?_ NB564_563.out _; (with_reducible repeat (first | refine blk_drewN ?_ _ | refine blk_drew ?_ | refine blk_alloc ?_ _)); exact BK564.out) hb); replace HB := Aside0.mk (below_step (B3_ HB.out GE542.out GE563.out GE564.out) hb); (try clear hb); (try clear hb2); (try clear hk); (try clear hi); (try clear ho0); (try clear ho1)) | ((with_reducible refine gate_dst (N := 9) rfl ?_); refine box_event ?hg (N := 9) ?hd (cs := #[.int .i64 0, .slice none 0 0, .slice none 0 0]) (t := 30) ?hr ?_; (case hd => rfl); (case hg => rfl); (case hr => first | (go_simp; done) | (go_simp; rfl)); intro gb573 hg w60 hbox hb; replace HO_543001 := rb_ HO_543001 hb; replace HO_543002 := Aside0.mk (Kd.N_below (Kd.N_elderB (N_ HO_543002.out) gb573 (Nat.le_of_eq hg.symm)) hb); replace HO552 := rb_ HO552 hb; replace HO555 := Aside0.mk (Kd.N_below (Kd.N_elderB (N_ HO555.out) gb573 (Nat.le_of_eq hg.symm)) hb); replace HO559 := rb_ HO559 hb; replace HO562 := Aside0.mk (Kd.N_below (Kd.N_elderB (N_ HO562.out) gb573 (Nat.le_of_eq hg.symm)) hb); replace HO568 := rb_ HO568 hb; replace HO571 := Aside0.mk (Kd.N_below (Kd.N_elderB (N_ HO571.out) gb573 (Nat.le_of_eq hg.symm)) hb); have BK573 := Aside0.mk (hbox); have GW573 := Aside0.mk ((by rw [hg]; exact (below_size (B3_ HB.out GE542.out GE563.out GE564.out)) : w.heap.size ≤ gb573)); have GE573 := Aside0.mk ((by rw [hg]; exact (below_size (B3_ HB.out GE542.out GE563.out GE564.out)) : w.heap.size ≤ gb573)); replace HB := Aside0.mk (below_step (B3_ HB.out GE542.out GE563.out GE564.out) hb); have NB542_573 := Aside0.mk ((by rw [hg]; exact Nat.ne_of_lt (blk_lt (K_ BK542.out)) : gb542 ≠ gb573)); have NB573_542 := Aside0.mk ((by rw [hg]; exact Nat.ne_of_gt (blk_lt (K_ BK542.out)) : gb573 ≠ gb542)); replace BK542 := kb_ BK542 hb; have NB563_573 := Aside0.mk ((by rw [hg]; exact Nat.ne_of_lt (blk_lt (K_ BK563.out)) : gb563 ≠ gb573)); have NB573_563 := Aside0.mk ((by rw [hg]; exact Nat.ne_of_gt (blk_lt (K_ BK563.out)) : gb573 ≠ gb563)); replace BK563 := kb_ BK563 hb; have NB564_573 := Aside0.mk ((by rw [hg]; exact Nat.ne_of_lt (blk_lt (K_ BK564.out)) : gb564 ≠ gb573)); have NB573_564 := Aside0.mk ((by rw [hg]; exact Nat.ne_of_gt (blk_lt (K_ BK564.out)) : gb573 ≠ gb564)); replace BK564 := kb_ BK564 hb; clear hb hbox hg; have hnb61 := NB573_542.out; have hnc61 := NB542_573.out; have hnb62 := NB573_563.out; have hnc62 := NB563_573.out; have hnb63 := NB573_564.out; have hnc63 := NB564_573.out; obtain ⟨hcz64_0, hcz64_1, hcz64_2, hfz64_0, hfz64_1, hfz64_2⟩ := box3_ BK573.out; obtain ⟨Ao65, co65, eo65⟩ := Kd.R_slice HO568.out; subst eo65; obtain ⟨Ao66, co66, eo66⟩ := Kd.N_slice HO571.out; subst eo66) | ((with_reducible refine gate_callee (f := 32) rfl ?_); refine goesL_ (some 61) rfl rfl Try.func32 (by kernel_rfl) rfl #[.agg #[.int .i64 t565, .slice Ao65 t566.length co65, .slice Ao66 t569.length co66], .string t572] rfl ma_ ?_; (with_reducible refine (impl_PartType.calls k1 t565 _ _ t566 _ _ t569 t572 t574 t575 t578 t581 _ ?side1 ?side2 ?side3 ?side4 A29.out).mono ?_); (case side1 => refine (Kd.R_reads' (e := 9) (base := w.heap.size) (ok := fun k_ => (((True ∧ some k_ ≠ (.slice Ao9 t536.length co9 : Value).ownBlock) ∧ some k_ ≠ (.slice Ao53 t550.length co53 : Value).ownBlock) ∧ some k_ ≠ (.slice Ao57 t557.length co57 : Value).ownBlock)) (n := t566.length) (c := co65) ?_).2.2; exact (by (with_reducible repeat (first | apply Kd.R_alloc | apply Kd.R_drewN | apply Kd.R_drew)); exact (Kd.R_mono (Kd.R_far (p := ⟨gb573, 2, none⟩) (Kd.R_far (p := ⟨gb573, 1, none⟩) (Kd.R_far (p := ⟨gb573, 0, none⟩) (Kd.R_types HO568.out BK573.out (by decide)) (fun _ hk => hk.2) (.int .i64 t565)) (fun _ hk => hk.2) (.slice Ao65 t566.length co65)) (fun _ hk => hk.2) (.slice Ao66 t569.length co66)) (fun _ h_ => h_.1)))); (case side2 => exact lrb_ HO568); (case side3 => refine (Kd.N_reads' (e := 30) (base := w.heap.size) (ok := fun k_ => ((some k_ ≠ (.slice Ao65 t566.length co65 : Value).ownBlock ∧ (some k_ ≠ (.slice Ao9 t536.length co9 : Value).ownBlock ∧ (some k_ ≠ (.slice Ao10 t539.length co10 : Value).ownBlock ∧ (some k_ ≠ (.slice Ao53 t550.length co53 : Value).ownBlock ∧ (some k_ ≠ (.slice Ao54 t553.length co54 : Value).ownBlock ∧ (some k_ ≠ (.slice Ao57 t557.length co57 : Value).ownBlock ∧ (some k_ ≠ (.slice Ao58 t560.length co58 : Value).ownBlock ∧ (k_ ≠ gb542 ∧ (k_ ≠ gb563 ∧ k_ ≠ gb564))))))))) ∧ k_ ≠ gb573)) (n := t569.length) (c := co66) ?_).2.2; exact (by (with_reducible repeat (first | apply Kd.N_alloc | apply Kd.N_drewN | apply Kd.N_drew)); exact (Kd.N_mono (Kd.N_far (p := ⟨gb573, 2, none⟩) (Kd.N_far (p := ⟨gb573, 1, none⟩) (Kd.N_far (p := ⟨gb573, 0, none⟩) (Kd.N_mono HO571.out (fun k_ hk => (⟨hk, hk.2⟩ : _ ∧ k_ ≠ gb573))) (fun _ hk => hk.2) (.int .i64 t565)) (fun _ hk => hk.2) (.slice Ao65 t566.length co65)) (fun _ hk => hk.2) (.slice Ao66 t569.length co66)) (fun _ h_ => h_.1)))); (case side4 => exact lnb_ HO571); rintro e w67 ⟨v576, v579, rfl, ho0, ho1, hb⟩; refine ⟨_, rfl, ?_⟩; have HO577 := Aside0.mk (Kd.R_lower (Kd.R_new' (Kd.R_new' (Kd.R_new' (Kd.R_new' ho0 (Kd.R_lt (by (with_reducible repeat (first | apply Kd.R_alloc | apply Kd.R_drewN | apply Kd.R_drew)); exact (Kd.R_mono (Kd.R_far (p := ⟨gb573, 2, none⟩) (Kd.R_far (p := ⟨gb573, 1, none⟩) (Kd.R_far (p := ⟨gb573, 0, none⟩) (Kd.R_types HO_543001.out BK573.out (by decide)) (fun _ hk => hk.2) (.int .i64 t565)) (fun _ hk => hk.2) (.slice Ao65 t566.length co65)) (fun _ hk => hk.2) (.slice Ao66 t569.length co66)) (fun _ h_ => h_.1))))) (Kd.R_lt (by (with_reducible repeat (first | apply Kd.R_alloc | apply Kd.R_drewN | apply Kd.R_drew)); exact (Kd.R_mono (Kd.R_far (p := ⟨gb573, 2, none⟩) (Kd.R_far (p := ⟨gb573, 1, none⟩) (Kd.R_far (p := ⟨gb573, 0, none⟩) (Kd.R_types HO552.out BK573.out (by decide)) (fun _ hk => hk.2) (.int .i64 t565)) (fun _ hk => hk.2) (.slice Ao65 t566.length co65)) (fun _ hk => hk.2) (.slice Ao66 t569.length co66)) (fun _ h_ => h_.1))))) (Kd.R_lt (by (with_reducible repeat (first | apply Kd.R_alloc | apply Kd.R_drewN | apply Kd.R_drew)); exact (Kd.R_mono (Kd.R_far (p := ⟨gb573, 2, none⟩) (Kd.R_far (p := ⟨gb573, 1, none⟩) (Kd.R_far (p := ⟨gb573, 0, none⟩) (Kd.R_types HO559.out BK573.out (by decide)) (fun _ hk => hk.2) (.int .i64 t565)) (fun _ hk => hk.2) (.slice Ao65 t566.length co65)) (fun _ hk => hk.2) (.slice Ao66 t569.length co66)) (fun _ h_ => h_.1))))) (Kd.R_lt (by (with_reducible repeat (first | apply Kd.R_alloc | apply Kd.R_drewN | apply Kd.R_drew)); exact (Kd.R_mono (Kd.R_far (p := ⟨gb573, 2, none⟩) (Kd.R_far (p := ⟨gb573, 1, none⟩) (Kd.R_far (p := ⟨gb573, 0, none⟩) (Kd.R_types HO568.out BK573.out (by decide)) (fun _ hk => hk.2) (.int .i64 t565)) (fun _ hk => hk.2) (.slice Ao65 t566.length co65)) (fun _ hk => hk.2) (.slice Ao66 t569.length co66)) (fun _ h_ => h_.1))))) (below_size (B4_ HB.out GE542.out GE563.out GE564.out GE573.out))); have HO580 := Aside0.mk (Kd.N_lower (Kd.N_mono (ok' := fun k_ => some k_ ≠ (v576 : Value).ownBlock ∧ some k_ ≠ (.slice Ao9 t536.length co9 : Value).ownBlock ∧ some k_ ≠ (.slice Ao10 t539.length co10 : Value).ownBlock ∧ some k_ ≠ (.slice Ao53 t550.length co53 : Value).ownBlock ∧ some k_ ≠ (.slice Ao54 t553.length co54 : Value).ownBlock ∧ some k_ ≠ (.slice Ao57 t557.length co57 : Value).ownBlock ∧ some k_ ≠ (.slice Ao58 t560.length co58 : Value).ownBlock ∧ some k_ ≠ (.slice Ao65 t566.length co65 : Value).ownBlock ∧ some k_ ≠ (.slice Ao66 t569.length co66 : Value).ownBlock ∧ k_ ≠ gb542 ∧ k_ ≠ gb563 ∧ k_ ≠ gb564 ∧ k_ ≠ gb573) (Kd.R_N (Kd.R_bound ho1)) (fun k_ hk_ => ⟨hk_.1, (Kd.fresh' (Kd.R_lt (by (with_reducible repeat (first | apply Kd.R_alloc | apply Kd.R_drewN | apply Kd.R_drew)); exact (Kd.R_mono (Kd.R_far (p := ⟨gb573, 2, none⟩) (Kd.R_far (p := ⟨gb573, 1, none⟩) (Kd.R_far (p := ⟨gb573, 0, none⟩) (Kd.R_types HO_543001.out BK573.out (by decide)) (fun _ hk => hk.2) (.int .i64 t565)) (fun _ hk => hk.2) (.slice Ao65 t566.length co65)) (fun _ hk => hk.2) (.slice Ao66 t569.length co66)) (fun _ h_ => h_.1)))) k_ hk_.2.1), (Kd.fresh' (Kd.N_lt (by (with_reducible repeat (first | apply Kd.N_alloc | apply Kd.N_drewN | apply Kd.N_drew)); exact (Kd.N_mono (Kd.N_far (p := ⟨gb573, 2, none⟩) (Kd.N_far (p := ⟨gb573, 1, none⟩) (Kd.N_far (p := ⟨gb573, 0, none⟩) (Kd.N_mono HO_543002.out (fun k_ hk => (⟨hk, hk.2⟩ : _ ∧ k_ ≠ gb573))) (fun _ hk => hk.2) (.int .i64 t565)) (fun _ hk => hk.2) (.slice Ao65 t566.length co65)) (fun _ hk => hk.2) (.slice Ao66 t569.length co66)) (fun _ h_ => h_.1)))) k_ hk_.2.1), (Kd.fresh' (Kd.R_lt (by (with_reducible repeat (first | apply Kd.R_alloc | apply Kd.R_drewN | apply Kd.R_drew)); exact (Kd.R_mono (Kd.R_far (p := ⟨gb573, 2, none⟩) (Kd.R_far (p := ⟨gb573, 1, none⟩) (Kd.R_far (p := ⟨gb573, 0, none⟩) (Kd.R_types HO552.out BK573.out (by decide)) (fun _ hk => hk.2) (.int .i64 t565)) (fun _ hk => hk.2) (.slice Ao65 t566.length co65)) (fun _ hk => hk.2) (.slice Ao66 t569.length co66)) (fun _ h_ => h_.1)))) k_ hk_.2.1), (Kd.fresh' (Kd.N_lt (by (with_reducible repeat (first | apply Kd.N_alloc | apply Kd.N_drewN | apply Kd.N_drew)); exact (Kd.N_mono (Kd.N_far (p := ⟨gb573, 2, none⟩) (Kd.N_far (p := ⟨gb573, 1, none⟩) (Kd.N_far (p := ⟨gb573, 0, none⟩) (Kd.N_mono HO555.out (fun k_ hk => (⟨hk, hk.2⟩ : _ ∧ k_ ≠ gb573))) (fun _ hk => hk.2) (.int .i64 t565)) (fun _ hk => hk.2) (.slice Ao65 t566.length co65)) (fun _ hk => hk.2) (.slice Ao66 t569.length co66)) (fun _ h_ => h_.1)))) k_ hk_.2.1), (Kd.fresh' (Kd.R_lt (by (with_reducible repeat (first | apply Kd.R_alloc | apply Kd.R_drewN | apply Kd.R_drew)); exact (Kd.R_mono (Kd.R_far (p := ⟨gb573, 2, none⟩) (Kd.R_far (p := ⟨gb573, 1, none⟩) (Kd.R_far (p := ⟨gb573, 0, none⟩) (Kd.R_types HO559.out BK573.out (by decide)) (fun _ hk => hk.2) (.int .i64 t565)) (fun _ hk => hk.2) (.slice Ao65 t566.length co65)) (fun _ hk => hk.2) (.slice Ao66 t569.length co66)) (fun _ h_ => h_.1)))) k_ hk_.2.1), (Kd.fresh' (Kd.N_lt (by (with_reducible repeat (first | apply Kd.N_alloc | apply Kd.N_drewN | apply Kd.N_drew)); exact (Kd.N_mono (Kd.N_far (p := ⟨gb573, 2, none⟩) (Kd.N_far (p := ⟨gb573, 1, none⟩) (Kd.N_far (p := ⟨gb573, 0, none⟩) (Kd.N_mono HO562.out (fun k_ hk => (⟨hk, hk.2⟩ : _ ∧ k_ ≠ gb573))) (fun _ hk => hk.2) (.int .i64 t565)) (fun _ hk => hk.2) (.slice Ao65 t566.length co65)) (fun _ hk => hk.2) (.slice Ao66 t569.length co66)) (fun _ h_ => h_.1)))) k_ hk_.2.1), (Kd.fresh' (Kd.R_lt (by (with_reducible repeat (first | apply Kd.R_alloc | apply Kd.R_drewN | apply Kd.R_drew)); exact (Kd.R_mono (Kd.R_far (p := ⟨gb573, 2, none⟩) (Kd.R_far (p := ⟨gb573, 1, none⟩) (Kd.R_far (p := ⟨gb573, 0, none⟩) (Kd.R_types HO568.out BK573.out (by decide)) (fun _ hk => hk.2) (.int .i64 t565)) (fun _ hk => hk.2) (.slice Ao65 t566.length co65)) (fun _ hk => hk.2) (.slice Ao66 t569.length co66)) (fun _ h_ => h_.1)))) k_ hk_.2.1), (Kd.fresh' (Kd.N_lt (by (with_reducible repeat (first | apply Kd.N_alloc | apply Kd.N_drewN | apply Kd.N_drew)); exact (Kd.N_mono (Kd.N_far (p := ⟨gb573, 2, none⟩) (Kd.N_far (p := ⟨gb573, 1, none⟩) (Kd.N_far (p := ⟨gb573, 0, none⟩) (Kd.N_mono HO571.out (fun k_ hk => (⟨hk, hk.2⟩ : _ ∧ k_ ≠ gb573))) (fun _ hk => hk.2) (.int .i64 t565)) (fun _ hk => hk.2) (.slice Ao65 t566.length co65)) (fun _ hk => hk.2) (.slice Ao66 t569.length co66)) (fun _ h_ => h_.1)))) k_ hk_.2.1), (Kd.freshB (g := gb542) (o := .cells #[.int .i64 t535, .slice Ao9 t536.length co9, .slice Ao10 t539.length co10] 30 (0, 0)) (by (with_reducible repeat (first | refine blk_drewN ?_ _ | refine blk_drew ?_ | refine blk_alloc ?_ _)); refine blk_far ?_ NB542_573.out _; (with_reducible repeat (first | refine blk_drewN ?_ _ | refine blk_drew ?_ | refine blk_alloc ?_ _)); refine blk_far ?_ NB542_573.out _; (with_reducible repeat (first | refine blk_drewN ?_ _ | refine blk_drew ?_ | refine blk_alloc ?_ _)); refine blk_far ?_ NB542_573.out _; (with_reducible repeat (first | refine blk_drewN ?_ _ | refine blk_drew ?_ | refine blk_alloc ?_ _)); exact BK542.out) k_ hk_.2.1), (Kd.freshB (g := gb563) (o := .cells #[.int .i64 t549, .slice Ao53 t550.length co53, .slice Ao54 t553.length co54] 30 (0, 0)) (by (with_reducible repeat (first | refine blk_drewN ?_ _ | refine blk_drew ?_ | refine blk_alloc ?_ _)); refine blk_far ?_ NB563_573.out _; (with_reducible repeat (first | refine blk_drewN ?_ _ | refine blk_drew ?_ | refine blk_alloc ?_ _)); refine blk_far ?_ NB563_573.out _; (with_reducible repeat (first | refine blk_drewN ?_ _ | refine blk_drew ?_ | refine blk_alloc ?_ _)); refine blk_far ?_ NB563_573.out _; (with_reducible repeat (first | refine blk_drewN ?_ _ | refine blk_drew ?_ | refine blk_alloc ?_ _)); exact BK563.out) k_ hk_.2.1), (Kd.freshB (g := gb564) (o := .cells #[.int .i64 t556, .slice Ao57 t557.length co57, .slice Ao58 t560.length co58] 30 (0, 0)) (by (with_reducible repeat (first | refine blk_drewN ?_ _ | refine blk_drew ?_ | refine blk_alloc ?_ _)); refine blk_far ?_ NB564_573.out _; (with_reducible repeat (first | refine blk_drewN ?_ _ | refine blk_drew ?_ | refine blk_alloc ?_ _)); refine blk_far ?_ NB564_573.out _; (with_reducible repeat (first | refine blk_drewN ?_ _ | refine blk_drew ?_ | refine blk_alloc ?_ _)); refine blk_far ?_ NB564_573.out _; (with_reducible repeat (first | refine blk_drewN ?_ _ | refine blk_drew ?_ | refine blk_alloc ?_ _)); exact BK564.out) k_ hk_.2.1), (Kd.freshB (g := gb573) (o := .cells #[.int .i64 t565, .slice Ao65 t566.length co65, .slice Ao66 t569.length co66] 30 (0, 0)) (by (with_reducible repeat (first | refine blk_drewN ?_ _ | refine blk_drew ?_ | refine blk_alloc ?_ _)); refine blk_put (cs := #[.int .i64 t565, .slice Ao65 t566.length co65, .slice none 0 0]) ?_ 2 _ rfl; (with_reducible repeat (first | refine blk_drewN ?_ _ | refine blk_drew ?_ | refine blk_alloc ?_ _)); refine blk_put (cs := #[.int .i64 t565, .slice none 0 0, .slice none 0 0]) ?_ 1 _ rfl; (with_reducible repeat (first | refine blk_drewN ?_ _ | refine blk_drew ?_ | refine blk_alloc ?_ _)); refine blk_put (cs := #[.int .i64 0, .slice none 0 0, .slice none 0 0]) ?_ 0 _ rfl; (with_reducible repeat (first | refine blk_drewN ?_ _ | refine blk_drew ?_ | refine blk_alloc ?_ _)); exact BK573.out) k_ hk_.2.1)⟩)) (below_size (B4_ HB.out GE542.out GE563.out GE564.out GE573.out))); replace HO_543001 := Aside0.mk (Kd.R_elder' (by (with_reducible repeat (first | apply Kd.R_alloc | apply Kd.R_drewN | apply Kd.R_drew)); exact (Kd.R_mono (Kd.R_far (p := ⟨gb573, 2, none⟩) (Kd.R_far (p := ⟨gb573, 1, none⟩) (Kd.R_far (p := ⟨gb573, 0, none⟩) (Kd.R_types HO_543001.out BK573.out (by decide)) (fun _ hk => hk.2) (.int .i64 t565)) (fun _ hk => hk.2) (.slice Ao65 t566.length co65)) (fun _ hk => hk.2) (.slice Ao66 t569.length co66)) (fun _ h_ => h_.1))) (Kd.R_base ho0) hb); replace HO_543002 := Aside0.mk (Kd.N_mono (Kd.N_told (Kd.N_told (Kd.N_old (by (with_reducible repeat (first | apply Kd.N_alloc | apply Kd.N_drewN | apply Kd.N_drew)); exact (Kd.N_mono (Kd.N_far (p := ⟨gb573, 2, none⟩) (Kd.N_far (p := ⟨gb573, 1, none⟩) (Kd.N_far (p := ⟨gb573, 0, none⟩) (Kd.N_mono HO_543002.out (fun k_ hk => (⟨hk, hk.2⟩ : _ ∧ k_ ≠ gb573))) (fun _ hk => hk.2) (.int .i64 t565)) (fun _ hk => hk.2) (.slice Ao65 t566.length co65)) (fun _ hk => hk.2) (.slice Ao66 t569.length co66)) (fun _ h_ => h_.1))) hb) (Kd.R_base ho0)) (Kd.R_base ho1)) (fun _ h_ => h_.1)); replace HO552 := Aside0.mk (Kd.R_elder' (by (with_reducible repeat (first | apply Kd.R_alloc | apply Kd.R_drewN | apply Kd.R_drew)); exact (Kd.R_mono (Kd.R_far (p := ⟨gb573, 2, none⟩) (Kd.R_far (p := ⟨gb573, 1, none⟩) (Kd.R_far (p := ⟨gb573, 0, none⟩) (Kd.R_types HO552.out BK573.out (by decide)) (fun _ hk => hk.2) (.int .i64 t565)) (fun _ hk => hk.2) (.slice Ao65 t566.length co65)) (fun _ hk => hk.2) (.slice Ao66 t569.length co66)) (fun _ h_ => h_.1))) (Kd.R_base ho0) hb); replace HO555 := Aside0.mk (Kd.N_mono (Kd.N_told (Kd.N_told (Kd.N_old (by (with_reducible repeat (first | apply Kd.N_alloc | apply Kd.N_drewN | apply Kd.N_drew)); exact (Kd.N_mono (Kd.N_far (p := ⟨gb573, 2, none⟩) (Kd.N_far (p := ⟨gb573, 1, none⟩) (Kd.N_far (p := ⟨gb573, 0, none⟩) (Kd.N_mono HO555.out (fun k_ hk => (⟨hk, hk.2⟩ : _ ∧ k_ ≠ gb573))) (fun _ hk => hk.2) (.int .i64 t565)) (fun _ hk => hk.2) (.slice Ao65 t566.length co65)) (fun _ hk => hk.2) (.slice Ao66 t569.length co66)) (fun _ h_ => h_.1))) hb) (Kd.R_base ho0)) (Kd.R_base ho1)) (fun _ h_ => h_.1)); replace HO559 := Aside0.mk (Kd.R_elder' (by (with_reducible repeat (first | apply Kd.R_alloc | apply Kd.R_drewN | apply Kd.R_drew)); exact (Kd.R_mono (Kd.R_far (p := ⟨gb573, 2, none⟩) (Kd.R_far (p := ⟨gb573, 1, none⟩) (Kd.R_far (p := ⟨gb573, 0, none⟩) (Kd.R_types HO559.out BK573.out (by decide)) (fun _ hk => hk.2) (.int .i64 t565)) (fun _ hk => hk.2) (.slice Ao65 t566.length co65)) (fun _ hk => hk.2) (.slice Ao66 t569.length co66)) (fun _ h_ => h_.1))) (Kd.R_base ho0) hb); replace HO562 := Aside0.mk (Kd.N_mono (Kd.N_told (Kd.N_told (Kd.N_old (by (with_reducible repeat (first | apply Kd.N_alloc | apply Kd.N_drewN | apply Kd.N_drew)); exact (Kd.N_mono (Kd.N_far (p := ⟨gb573, 2, none⟩) (Kd.N_far (p := ⟨gb573, 1, none⟩) (Kd.N_far (p := ⟨gb573, 0, none⟩) (Kd.N_mono HO562.out (fun k_ hk => (⟨hk, hk.2⟩ : _ ∧ k_ ≠ gb573))) (fun _ hk => hk.2) (.int .i64 t565)) (fun _ hk => hk.2) (.slice Ao65 t566.length co65)) (fun _ hk => hk.2) (.slice Ao66 t569.length co66)) (fun _ h_ => h_.1))) hb) (Kd.R_base ho0)) (Kd.R_base ho1)) (fun _ h_ => h_.1)); replace HO568 := Aside0.mk (Kd.R_elder' (by (with_reducible repeat (first | apply Kd.R_alloc | apply Kd.R_drewN | apply Kd.R_drew)); exact (Kd.R_mono (Kd.R_far (p := ⟨gb573, 2, none⟩) (Kd.R_far (p := ⟨gb573, 1, none⟩) (Kd.R_far (p := ⟨gb573, 0, none⟩) (Kd.R_types HO568.out BK573.out (by decide)) (fun _ hk => hk.2) (.int .i64 t565)) (fun _ hk => hk.2) (.slice Ao65 t566.length co65)) (fun _ hk => hk.2) (.slice Ao66 t569.length co66)) (fun _ h_ => h_.1))) (Kd.R_base ho0) hb); replace HO571 := Aside0.mk (Kd.N_mono (Kd.N_told (Kd.N_told (Kd.N_old (by (with_reducible repeat (first | apply Kd.N_alloc | apply Kd.N_drewN | apply Kd.N_drew)); exact (Kd.N_mono (Kd.N_far (p := ⟨gb573, 2, none⟩) (Kd.N_far (p := ⟨gb573, 1, none⟩) (Kd.N_far (p := ⟨gb573, 0, none⟩) (Kd.N_mono HO571.out (fun k_ hk => (⟨hk, hk.2⟩ : _ ∧ k_ ≠ gb573))) (fun _ hk => hk.2) (.int .i64 t565)) (fun _ hk => hk.2) (.slice Ao65 t566.length co65)) (fun _ hk => hk.2) (.slice Ao66 t569.length co66)) (fun _ h_ => h_.1))) hb) (Kd.R_base ho0)) (Kd.R_base ho1)) (fun _ h_ => h_.1)); replace BK542 := Aside0.mk (blk_below (g := gb542) (o := .cells #[.int .i64 t535, .slice Ao9 t536.length co9, .slice Ao10 t539.length co10] 30 (0, 0)) (by (with_reducible repeat (first | refine blk_drewN ?_ _ | refine blk_drew ?_ | refine blk_alloc ?_ _)); refine blk_far ?_ NB542_573.out _; (with_reducible repeat (first | refine blk_drewN ?_ _ | refine blk_drew ?_ | refine blk_alloc ?_ _)); refine blk_far ?_ NB542_573.out _; (with_reducible repeat (first | refine blk_drewN ?_ _ | refine blk_drew ?_ | refine blk_alloc ?_ _)); refine blk_far ?_ NB542_573.out _; (with_reducible repeat (first | refine blk_drewN ?_ _ | refine blk_drew ?_ | refine blk_alloc ?_ _)); exact BK542.out) hb); replace BK563 := Aside0.mk (blk_below (g := gb563) (o := .cells #[.int .i64 t549, .slice Ao53 t550.length co53, .slice Ao54 t553.length co54] 30 (0, 0)) (by (with_reducible repeat (first | refine blk_drewN ?_ _ | refine blk_drew ?_ | refine blk_alloc ?_ _)); refine blk_far ?_ NB563_573.out _; (with_reducible repeat (first | refine blk_drewN ?_ _ | refine blk_drew ?_ | refine blk_alloc ?_ _)); refine blk_far ?_ NB563_573.out _; (with_reducible repeat (first | refine blk_drewN ?_ _ | refine blk_drew ?_ | refine blk_alloc ?_ _)); refine blk_far ?_ NB563_573.out _; (with_reducible repeat (first | refine blk_drewN ?_ _ | refine blk_drew ?_ | refine blk_alloc ?_ _)); exact BK563.out) hb); replace BK564 := Aside0.mk (blk_below (g := gb564) (o := .cells #[.int .i64 t556, .slice Ao57 t557.length co57, .slice Ao58 t560.length co58] 30 (0, 0)) (by (with_reducible repeat (first | refine blk_drewN ?_ _ | refine blk_drew ?_ | refine blk_alloc ?_ _)); refine blk_far ?_ NB564_573.out _; (with_reducible repeat (first | refine blk_drewN ?_ _ | refine blk_drew ?_ | refine blk_alloc ?_ _)); refine blk_far ?_ NB564_573.out _; (with_reducible repeat (first | refine blk_drewN ?_ _ | refine blk_drew ?_ | refine blk_alloc ?_ _)); refine blk_far ?_ NB564_573.out _; (with_reducible repeat (first | refine blk_drewN ?_ _ | refine blk_drew ?_ | refine blk_alloc ?_ _)); exact BK564.out) hb); replace BK573 := Aside0.mk (blk_below (g := gb573) (o := .cells #[.int .i64 t565, .slice Ao65 t566.length co65, .slice Ao66 t569.length co66] 30 (0, 0)) (by (with_reducible repeat (first | refine blk_drewN ?_ _ | refine blk_drew ?_ | refine blk_alloc ?_ _)); refine blk_put (cs := #[.int .i64 t565, .slice Ao65 t566.length co65, .slice none 0 0]) ?_ 2 _ rfl; (with_reducible repeat (first | refine blk_drewN ?_ _ | refine blk_drew ?_ | refine blk_alloc ?_ _)); refine blk_put (cs := #[.int .i64 t565, .slice none 0 0, .slice none 0 0]) ?_ 1 _ rfl; (with_reducible repeat (first | refine blk_drewN ?_ _ | refine blk_drew ?_ | refine blk_alloc ?_ _)); refine blk_put (cs := #[.int .i64 0, .slice none 0 0, .slice none 0 0]) ?_ 0 _ rfl; (with_reducible repeat (first | refine blk_drewN ?_ _ | refine blk_drew ?_ | refine blk_alloc ?_ _)); exact BK573.out) hb); replace HB := Aside0.mk (below_step (B4_ HB.out GE542.out GE563.out GE564.out GE573.out) hb); (try clear hb); (try clear hb2); (try clear hk); (try clear hi); (try clear ho0); (try clear ho1)) | ((with_reducible refine gate_dst (N := 11) rfl ?_); refine box_event ?hg (N := 11) ?hd (cs := #[.int .i64 0, .slice none 0 0, .slice none 0 0]) (t := 30) ?hr ?_; (case hd => rfl); (case hg => rfl); (case hr => first | (go_simp; done) | (go_simp; rfl)); intro gb582 hg w68 hbox hb; replace HO_543001 := rb_ HO_543001 hb; replace HO_543002 := Aside0.mk (Kd.N_below (Kd.N_elderB (N_ HO_543002.out) gb582 (Nat.le_of_eq hg.symm)) hb); replace HO552 := rb_ HO552 hb; replace HO555 := Aside0.mk (Kd.N_below (Kd.N_elderB (N_ HO555.out) gb582 (Nat.le_of_eq hg.symm)) hb); replace HO559 := rb_ HO559 hb; replace HO562 := Aside0.mk (Kd.N_below (Kd.N_elderB (N_ HO562.out) gb582 (Nat.le_of_eq hg.symm)) hb); replace HO568 := rb_ HO568 hb; replace HO571 := Aside0.mk (Kd.N_below (Kd.N_elderB (N_ HO571.out) gb582 (Nat.le_of_eq hg.symm)) hb); replace HO577 := rb_ HO577 hb; replace HO580 := Aside0.mk (Kd.N_below (Kd.N_elderB (N_ HO580.out) gb582 (Nat.le_of_eq hg.symm)) hb); have BK582 := Aside0.mk (hbox); have GW582 := Aside0.mk ((by rw [hg]; exact (below_size (B4_ HB.out GE542.out GE563.out GE564.out GE573.out)) : w.heap.size ≤ gb582)); have GE582 := Aside0.mk ((by rw [hg]; exact (below_size (B4_ HB.out GE542.out GE563.out GE564.out GE573.out)) : w.heap.size ≤ gb582)); replace HB := Aside0.mk (below_step (B4_ HB.out GE542.out GE563.out GE564.out GE573.out) hb); have NB542_582 := Aside0.mk ((by rw [hg]; exact Nat.ne_of_lt (blk_lt (K_ BK542.out)) : gb542 ≠ gb582)); have NB582_542 := Aside0.mk ((by rw [hg]; exact Nat.ne_of_gt (blk_lt (K_ BK542.out)) : gb582 ≠ gb542)); replace BK542 := kb_ BK542 hb; have NB563_582 := Aside0.mk ((by rw [hg]; exact Nat.ne_of_lt (blk_lt (K_ BK563.out)) : gb563 ≠ gb582)); have NB582_563 := Aside0.mk ((by rw [hg]; exact Nat.ne_of_gt (blk_lt (K_ BK563.out)) : gb582 ≠ gb563)); replace BK563 := kb_ BK563 hb; have NB564_582 := Aside0.mk ((by rw [hg]; exact Nat.ne_of_lt (blk_lt (K_ BK564.out)) : gb564 ≠ gb582)); have NB582_564 := Aside0.mk ((by rw [hg]; exact Nat.ne_of_gt (blk_lt (K_ BK564.out)) : gb582 ≠ gb564)); replace BK564 := kb_ BK564 hb; have NB573_582 := Aside0.mk ((by rw [hg]; exact Nat.ne_of_lt (blk_lt (K_ BK573.out)) : gb573 ≠ gb582)); have NB582_573 := Aside0.mk ((by rw [hg]; exact Nat.ne_of_gt (blk_lt (K_ BK573.out)) : gb582 ≠ gb573)); replace BK573 := kb_ BK573 hb; clear hb hbox hg; have hnb69 := NB582_542.out; have hnc69 := NB542_582.out; have hnb70 := NB582_563.out; have hnc70 := NB563_582.out; have hnb71 := NB582_564.out; have hnc71 := NB564_582.out; have hnb72 := NB582_573.out; have hnc72 := NB573_582.out; obtain ⟨hcz73_0, hcz73_1, hcz73_2, hfz73_0, hfz73_1, hfz73_2⟩ := box3_ BK582.out; obtain ⟨Ao74, co74, eo74⟩ := Kd.R_slice HO577.out; subst eo74; obtain ⟨Ao75, co75, eo75⟩ := Kd.N_slice HO580.out; subst eo75; obtain ⟨hcz76_0, hcz76_1, hcz76_2, hfz76_0, hfz76_1, hfz76_2⟩ := box3_ BK573.out) | ((with_reducible refine gate_callee (f := 33) rfl ?_); refine goesL_ (some 67) rfl rfl Try.func33 (by kernel_rfl) rfl #[.agg #[.int .i64 t565, .slice Ao65 t566.length co65, .slice Ao66 t569.length co66], .string t572] rfl ma_ ?_; (with_reducible refine (spec_PartType.calls k1 t565 _ _ t566 _ _ t569 t572 t583 t584 t587 t590 _ ?side1 ?side2 ?side3 ?side4 A30.out).mono ?_); (case side1 => refine (Kd.R_reads' (e := 9) (base := w.heap.size) (ok := fun k_ => ((((True ∧ some k_ ≠ (.slice Ao9 t536.length co9 : Value).ownBlock) ∧ some k_ ≠ (.slice Ao53 t550.length co53 : Value).ownBlock) ∧ some k_ ≠ (.slice Ao57 t557.length co57 : Value).ownBlock) ∧ some k_ ≠ (.slice Ao74 t575.length co74 : Value).ownBlock)) (n := t566.length) (c := co65) ?_).2.2; exact (by (with_reducible repeat (first | apply Kd.R_alloc | apply Kd.R_drewN | apply Kd.R_drew)); exact (Kd.R_mono (Kd.R_far (p := ⟨gb582, 2, none⟩) (Kd.R_far (p := ⟨gb582, 1, none⟩) (Kd.R_far (p := ⟨gb582, 0, none⟩) (Kd.R_types HO568.out BK582.out (by decide)) (fun _ hk => hk.2) (.int .i64 t574)) (fun _ hk => hk.2) (.slice Ao74 t575.length co74)) (fun _ hk => hk.2) (.slice Ao75 t578.length co75)) (fun _ h_ => h_.1)))); (case side2 => exact lrb_ HO568); (case side3 => refine (Kd.N_reads' (e := 30) (base := w.heap.size) (ok := fun k_ => (((((some k_ ≠ (.slice Ao65 t566.length co65 : Value).ownBlock ∧ (some k_ ≠ (.slice Ao9 t536.length co9 : Value).ownBlock ∧ (some k_ ≠ (.slice Ao10 t539.length co10 : Value).ownBlock ∧ (some k_ ≠ (.slice Ao53 t550.length co53 : Value).ownBlock ∧ (some k_ ≠ (.slice Ao54 t553.length co54 : Value).ownBlock ∧ (some k_ ≠ (.slice Ao57 t557.length co57 : Value).ownBlock ∧ (some k_ ≠ (.slice Ao58 t560.length co58 : Value).ownBlock ∧ (k_ ≠ gb542 ∧ (k_ ≠ gb563 ∧ k_ ≠ gb564))))))))) ∧ k_ ≠ gb573) ∧ some k_ ≠ (.slice Ao74 t575.length co74 : Value).ownBlock) ∧ some k_ ≠ (.slice Ao75 t578.length co75 : Value).ownBlock) ∧ k_ ≠ gb582)) (n := t569.length) (c := co66) ?_).2.2; exact (by (with_reducible repeat (first | apply Kd.N_alloc | apply Kd.N_drewN | apply Kd.N_drew)); exact (Kd.N_mono (Kd.N_far (p := ⟨gb582, 2, none⟩) (Kd.N_far (p := ⟨gb582, 1, none⟩) (Kd.N_far (p := ⟨gb582, 0, none⟩) (Kd.N_mono HO571.out (fun k_ hk => (⟨hk, hk.2⟩ : _ ∧ k_ ≠ gb582))) (fun _ hk => hk.2) (.int .i64 t574)) (fun _ hk => hk.2) (.slice Ao74 t575.length co74)) (fun _ hk => hk.2) (.slice Ao75 t578.length co75)) (fun _ h_ => h_.1)))); (case side4 => exact lnb_ HO571); rintro e w77 ⟨v585, v588, rfl, ho0, ho1, hb⟩; refine ⟨_, rfl, ?_⟩; have HO586 := Aside0.mk (Kd.R_lower (Kd.R_new' (Kd.R_new' (Kd.R_new' (Kd.R_new' (Kd.R_new' ho0 (Kd.R_lt (by (with_reducible repeat (first | apply Kd.R_alloc | apply Kd.R_drewN | apply Kd.R_drew)); exact (Kd.R_mono (Kd.R_far (p := ⟨gb582, 2, none⟩) (Kd.R_far (p := ⟨gb582, 1, none⟩) (Kd.R_far (p := ⟨gb582, 0, none⟩) (Kd.R_types HO_543001.out BK582.out (by decide)) (fun _ hk => hk.2) (.int .i64 t574)) (fun _ hk => hk.2) (.slice Ao74 t575.length co74)) (fun _ hk => hk.2) (.slice Ao75 t578.length co75)) (fun _ h_ => h_.1))))) (Kd.R_lt (by (with_reducible repeat (first | apply Kd.R_alloc | apply Kd.R_drewN | apply Kd.R_drew)); exact (Kd.R_mono (Kd.R_far (p := ⟨gb582, 2, none⟩) (Kd.R_far (p := ⟨gb582, 1, none⟩) (Kd.R_far (p := ⟨gb582, 0, none⟩) (Kd.R_types HO552.out BK582.out (by decide)) (fun _ hk => hk.2) (.int .i64 t574)) (fun _ hk => hk.2) (.slice Ao74 t575.length co74)) (fun _ hk => hk.2) (.slice Ao75 t578.length co75)) (fun _ h_ => h_.1))))) (Kd.R_lt (by (with_reducible repeat (first | apply Kd.R_alloc | apply Kd.R_drewN | apply Kd.R_drew)); exact (Kd.R_mono (Kd.R_far (p := ⟨gb582, 2, none⟩) (Kd.R_far (p := ⟨gb582, 1, none⟩) (Kd.R_far (p := ⟨gb582, 0, none⟩) (Kd.R_types HO559.out BK582.out (by decide)) (fun _ hk => hk.2) (.int .i64 t574)) (fun _ hk => hk.2) (.slice Ao74 t575.length co74)) (fun _ hk => hk.2) (.slice Ao75 t578.length co75)) (fun _ h_ => h_.1))))) (Kd.R_lt (by (with_reducible repeat (first | apply Kd.R_alloc | apply Kd.R_drewN | apply Kd.R_drew)); exact (Kd.R_mono (Kd.R_far (p := ⟨gb582, 2, none⟩) (Kd.R_far (p := ⟨gb582, 1, none⟩) (Kd.R_far (p := ⟨gb582, 0, none⟩) (Kd.R_types HO568.out BK582.out (by decide)) (fun _ hk => hk.2) (.int .i64 t574)) (fun _ hk => hk.2) (.slice Ao74 t575.length co74)) (fun _ hk => hk.2) (.slice Ao75 t578.length co75)) (fun _ h_ => h_.1))))) (Kd.R_lt (by (with_reducible repeat (first | apply Kd.R_alloc | apply Kd.R_drewN | apply Kd.R_drew)); exact (Kd.R_mono (Kd.R_far (p := ⟨gb582, 2, none⟩) (Kd.R_far (p := ⟨gb582, 1, none⟩) (Kd.R_far (p := ⟨gb582, 0, none⟩) (Kd.R_types HO577.out BK582.out (by decide)) (fun _ hk => hk.2) (.int .i64 t574)) (fun _ hk => hk.2) (.slice Ao74 t575.length co74)) (fun _ hk => hk.2) (.slice Ao75 t578.length co75)) (fun _ h_ => h_.1))))) (below_size (B5_ HB.out GE542.out GE563.out GE564.out GE573.out GE582.out))); have HO589 := Aside0.mk (Kd.N_lower (Kd.N_mono (ok' := fun k_ => some k_ ≠ (v585 : Value).ownBlock ∧ some k_ ≠ (.slice Ao9 t536.length co9 : Value).ownBlock ∧ some k_ ≠ (.slice Ao10 t539.length co10 : Value).ownBlock ∧ some k_ ≠ (.slice Ao53 t550.length co53 : Value).ownBlock ∧ some k_ ≠ (.slice Ao54 t553.length co54 : Value).ownBlock ∧ some k_ ≠ (.slice Ao57 t557.length co57 : Value).ownBlock ∧ some k_ ≠ (.slice Ao58 t560.length co58 : Value).ownBlock ∧ some k_ ≠ (.slice Ao65 t566.length co65 : Value).ownBlock ∧ some k_ ≠ (.slice Ao66 t569.length co66 : Value).ownBlock ∧ some k_ ≠ (.slice Ao74 t575.length co74 : Value).ownBlock ∧ some k_ ≠ (.slice Ao75 t578.length co75 : Value).ownBlock ∧ k_ ≠ gb542 ∧ k_ ≠ gb563 ∧ k_ ≠ gb564 ∧ k_ ≠ gb573 ∧ k_ ≠ gb582) (Kd.R_N (Kd.R_bound ho1)) (fun k_ hk_ => ⟨hk_.1, (Kd.fresh' (Kd.R_lt (by (with_reducible repeat (first | apply Kd.R_alloc | apply Kd.R_drewN | apply Kd.R_drew)); exact (Kd.R_mono (Kd.R_far (p := ⟨gb582, 2, none⟩) (Kd.R_far (p := ⟨gb582, 1, none⟩) (Kd.R_far (p := ⟨gb582, 0, none⟩) (Kd.R_types HO_543001.out BK582.out (by decide)) (fun _ hk => hk.2) (.int .i64 t574)) (fun _ hk => hk.2) (.slice Ao74 t575.length co74)) (fun _ hk => hk.2) (.slice Ao75 t578.length co75)) (fun _ h_ => h_.1)))) k_ hk_.2.1), (Kd.fresh' (Kd.N_lt (by (with_reducible repeat (first | apply Kd.N_alloc | apply Kd.N_drewN | apply Kd.N_drew)); exact (Kd.N_mono (Kd.N_far (p := ⟨gb582, 2, none⟩) (Kd.N_far (p := ⟨gb582, 1, none⟩) (Kd.N_far (p := ⟨gb582, 0, none⟩) (Kd.N_mono HO_543002.out (fun k_ hk => (⟨hk, hk.2⟩ : _ ∧ k_ ≠ gb582))) (fun _ hk => hk.2) (.int .i64 t574)) (fun _ hk => hk.2) (.slice Ao74 t575.length co74)) (fun _ hk => hk.2) (.slice Ao75 t578.length co75)) (fun _ h_ => h_.1)))) k_ hk_.2.1), (Kd.fresh' (Kd.R_lt (by (with_reducible repeat (first | apply Kd.R_alloc | apply Kd.R_drewN | apply Kd.R_drew)); exact (Kd.R_mono (Kd.R_far (p := ⟨gb582, 2, none⟩) (Kd.R_far (p := ⟨gb582, 1, none⟩) (Kd.R_far (p := ⟨gb582, 0, none⟩) (Kd.R_types HO552.out BK582.out (by decide)) (fun _ hk => hk.2) (.int .i64 t574)) (fun _ hk => hk.2) (.slice Ao74 t575.length co74)) (fun _ hk => hk.2) (.slice Ao75 t578.length co75)) (fun _ h_ => h_.1)))) k_ hk_.2.1), (Kd.fresh' (Kd.N_lt (by (with_reducible repeat (first | apply Kd.N_alloc | apply Kd.N_drewN | apply Kd.N_drew)); exact (Kd.N_mono (Kd.N_far (p := ⟨gb582, 2, none⟩) (Kd.N_far (p := ⟨gb582, 1, none⟩) (Kd.N_far (p := ⟨gb582, 0, none⟩) (Kd.N_mono HO555.out (fun k_ hk => (⟨hk, hk.2⟩ : _ ∧ k_ ≠ gb582))) (fun _ hk => hk.2) (.int .i64 t574)) (fun _ hk => hk.2) (.slice Ao74 t575.length co74)) (fun _ hk => hk.2) (.slice Ao75 t578.length co75)) (fun _ h_ => h_.1)))) k_ hk_.2.1), (Kd.fresh' (Kd.R_lt (by (with_reducible repeat (first | apply Kd.R_alloc | apply Kd.R_drewN | apply Kd.R_drew)); exact (Kd.R_mono (Kd.R_far (p := ⟨gb582, 2, none⟩) (Kd.R_far (p := ⟨gb582, 1, none⟩) (Kd.R_far (p := ⟨gb582, 0, none⟩) (Kd.R_types HO559.out BK582.out (by decide)) (fun _ hk => hk.2) (.int .i64 t574)) (fun _ hk => hk.2) (.slice Ao74 t575.length co74)) (fun _ hk => hk.2) (.slice Ao75 t578.length co75)) (fun _ h_ => h_.1)))) k_ hk_.2.1), (Kd.fresh' (Kd.N_lt (by (with_reducible repeat (first | apply Kd.N_alloc | apply Kd.N_drewN | apply Kd.N_drew)); exact (Kd.N_mono (Kd.N_far (p := ⟨gb582, 2, none⟩) (Kd.N_far (p := ⟨gb582, 1, none⟩) (Kd.N_far (p := ⟨gb582, 0, none⟩) (Kd.N_mono HO562.out (fun k_ hk => (⟨hk, hk.2⟩ : _ ∧ k_ ≠ gb582))) (fun _ hk => hk.2) (.int .i64 t574)) (fun _ hk => hk.2) (.slice Ao74 t575.length co74)) (fun _ hk => hk.2) (.slice Ao75 t578.length co75)) (fun _ h_ => h_.1)))) k_ hk_.2.1), (Kd.fresh' (Kd.R_lt (by (with_reducible repeat (first | apply Kd.R_alloc | apply Kd.R_drewN | apply Kd.R_drew)); exact (Kd.R_mono (Kd.R_far (p := ⟨gb582, 2, none⟩) (Kd.R_far (p := ⟨gb582, 1, none⟩) (Kd.R_far (p := ⟨gb582, 0, none⟩) (Kd.R_types HO568.out BK582.out (by decide)) (fun _ hk => hk.2) (.int .i64 t574)) (fun _ hk => hk.2) (.slice Ao74 t575.length co74)) (fun _ hk => hk.2) (.slice Ao75 t578.length co75)) (fun _ h_ => h_.1)))) k_ hk_.2.1), (Kd.fresh' (Kd.N_lt (by (with_reducible repeat (first | apply Kd.N_alloc | apply Kd.N_drewN | apply Kd.N_drew)); exact (Kd.N_mono (Kd.N_far (p := ⟨gb582, 2, none⟩) (Kd.N_far (p := ⟨gb582, 1, none⟩) (Kd.N_far (p := ⟨gb582, 0, none⟩) (Kd.N_mono HO571.out (fun k_ hk => (⟨hk, hk.2⟩ : _ ∧ k_ ≠ gb582))) (fun _ hk => hk.2) (.int .i64 t574)) (fun _ hk => hk.2) (.slice Ao74 t575.length co74)) (fun _ hk => hk.2) (.slice Ao75 t578.length co75)) (fun _ h_ => h_.1)))) k_ hk_.2.1), (Kd.fresh' (Kd.R_lt (by (with_reducible repeat (first | apply Kd.R_alloc | apply Kd.R_drewN | apply Kd.R_drew)); exact (Kd.R_mono (Kd.R_far (p := ⟨gb582, 2, none⟩) (Kd.R_far (p := ⟨gb582, 1, none⟩) (Kd.R_far (p := ⟨gb582, 0, none⟩) (Kd.R_types HO577.out BK582.out (by decide)) (fun _ hk => hk.2) (.int .i64 t574)) (fun _ hk => hk.2) (.slice Ao74 t575.length co74)) (fun _ hk => hk.2) (.slice Ao75 t578.length co75)) (fun _ h_ => h_.1)))) k_ hk_.2.1), (Kd.fresh' (Kd.N_lt (by (with_reducible repeat (first | apply Kd.N_alloc | apply Kd.N_drewN | apply Kd.N_drew)); exact (Kd.N_mono (Kd.N_far (p := ⟨gb582, 2, none⟩) (Kd.N_far (p := ⟨gb582, 1, none⟩) (Kd.N_far (p := ⟨gb582, 0, none⟩) (Kd.N_mono HO580.out (fun k_ hk => (⟨hk, hk.2⟩ : _ ∧ k_ ≠ gb582))) (fun _ hk => hk.2) (.int .i64 t574)) (fun _ hk => hk.2) (.slice Ao74 t575.length co74)) (fun _ hk => hk.2) (.slice Ao75 t578.length co75)) (fun _ h_ => h_.1)))) k_ hk_.2.1), (Kd.freshB (g := gb542) (o := .cells #[.int .i64 t535, .slice Ao9 t536.length co9, .slice Ao10 t539.length co10] 30 (0, 0)) (by (with_reducible repeat (first | refine blk_drewN ?_ _ | refine blk_drew ?_ | refine blk_alloc ?_ _)); refine blk_far ?_ NB542_582.out _; (with_reducible repeat (first | refine blk_drewN ?_ _ | refine blk_drew ?_ | refine blk_alloc ?_ _)); refine blk_far ?_ NB542_582.out _; (with_reducible repeat (first | refine blk_drewN ?_ _ | refine blk_drew ?_ | refine blk_alloc ?_ _)); refine blk_far ?_ NB542_582.out _; (with_reducible repeat (first | refine blk_drewN ?_ _ | refine blk_drew ?_ | refine blk_alloc ?_ _)); exact BK542.out) k_ hk_.2.1), (Kd.freshB (g := gb563) (o := .cells #[.int .i64 t549, .slice Ao53 t550.length co53, .slice Ao54 t553.length co54] 30 (0, 0)) (by (with_reducible repeat (first | refine blk_drewN ?_ _ | refine blk_drew ?_ | refine blk_alloc ?_ _)); refine blk_far ?_ NB563_582.out _; (with_reducible repeat (first | refine blk_drewN ?_ _ | refine blk_drew ?_ | refine blk_alloc ?_ _)); refine blk_far ?_ NB563_582.out _; (with_reducible repeat (first | refine blk_drewN ?_ _ | refine blk_drew ?_ | refine blk_alloc ?_ _)); refine blk_far ?_ NB563_582.out _; (with_reducible repeat (first | refine blk_drewN ?_ _ | refine blk_drew ?_ | refine blk_alloc ?_ _)); exact BK563.out) k_ hk_.2.1), (Kd.freshB (g := gb564) (o := .cells #[.int .i64 t556, .slice Ao57 t557.length co57, .slice Ao58 t560.length co58] 30 (0, 0)) (by (with_reducible repeat (first | refine blk_drewN ?_ _ | refine blk_drew ?_ | refine blk_alloc ?_ _)); refine blk_far ?_ NB564_582.out _; (with_reducible repeat (first | refine blk_drewN ?_ _ | refine blk_drew ?_ | refine blk_alloc ?_ _)); refine blk_far ?_ NB564_582.out _; (with_reducible repeat (first | refine blk_drewN ?_ _ | refine blk_drew ?_ | refine blk_alloc ?_ _)); refine blk_far ?_ NB564_582.out _; (with_reducible repeat (first | refine blk_drewN ?_ _ | refine blk_drew ?_ | refine blk_alloc ?_ _)); exact BK564.out) k_ hk_.2.1), (Kd.freshB (g := gb573) (o := .cells #[.int .i64 t565, .slice Ao65 t566.length co65, .slice Ao66 t569.length co66] 30 (0, 0)) (by (with_reducible repeat (first | refine blk_drewN ?_ _ | refine blk_drew ?_ | refine blk_alloc ?_ _)); refine blk_far ?_ NB573_582.out _; (with_reducible repeat (first | refine blk_drewN ?_ _ | refine blk_drew ?_ | refine blk_alloc ?_ _)); refine blk_far ?_ NB573_582.out _; (with_reducible repeat (first | refine blk_drewN ?_ _ | refine blk_drew ?_ | refine blk_alloc ?_ _)); refine blk_far ?_ NB573_582.out _; (with_reducible repeat (first | refine blk_drewN ?_ _ | refine blk_drew ?_ | refine blk_alloc ?_ _)); exact BK573.out) k_ hk_.2.1), (Kd.freshB (g := gb582) (o := .cells #[.int .i64 t574, .slice Ao74 t575.length co74, .slice Ao75 t578.length co75] 30 (0, 0)) (by (with_reducible repeat (first | refine blk_drewN ?_ _ | refine blk_drew ?_ | refine blk_alloc ?_ _)); refine blk_put (cs := #[.int .i64 t574, .slice Ao74 t575.length co74, .slice none 0 0]) ?_ 2 _ rfl; (with_reducible repeat (first | refine blk_drewN ?_ _ | refine blk_drew ?_ | refine blk_alloc ?_ _)); refine blk_put (cs := #[.int .i64 t574, .slice none 0 0, .slice none 0 0]) ?_ 1 _ rfl; (with_reducible repeat (first | refine blk_drewN ?_ _ | refine blk_drew ?_ | refine blk_alloc ?_ _)); refine blk_put (cs := #[.int .i64 0, .slice none 0 0, .slice none 0 0]) ?_ 0 _ rfl; (with_reducible repeat (first | refine blk_drewN ?_ _ | refine blk_drew ?_ | refine blk_alloc ?_ _)); exact BK582.out) k_ hk_.2.1)⟩)) (below_size (B5_ HB.out GE542.out GE563.out GE564.out GE573.out GE582.out))); replace HO_543001 := Aside0.mk (Kd.R_elder' (by (with_reducible repeat (first | apply Kd.R_alloc | apply Kd.R_drewN | apply Kd.R_drew)); exact (Kd.R_mono (Kd.R_far (p := ⟨gb582, 2, none⟩) (Kd.R_far (p := ⟨gb582, 1, none⟩) (Kd.R_far (p := ⟨gb582, 0, none⟩) (Kd.R_types HO_543001.out BK582.out (by decide)) (fun _ hk => hk.2) (.int .i64 t574)) (fun _ hk => hk.2) (.slice Ao74 t575.length co74)) (fun _ hk => hk.2) (.slice Ao75 t578.length co75)) (fun _ h_ => h_.1))) (Kd.R_base ho0) hb); replace HO_543002 := Aside0.mk (Kd.N_mono (Kd.N_told (Kd.N_told (Kd.N_old (by (with_reducible repeat (first | apply Kd.N_alloc | apply Kd.N_drewN | apply Kd.N_drew)); exact (Kd.N_mono (Kd.N_far (p := ⟨gb582, 2, none⟩) (Kd.N_far (p := ⟨gb582, 1, none⟩) (Kd.N_far (p := ⟨gb582, 0, none⟩) (Kd.N_mono HO_543002.out (fun k_ hk => (⟨hk, hk.2⟩ : _ ∧ k_ ≠ gb582))) (fun _ hk => hk.2) (.int .i64 t574)) (fun _ hk => hk.2) (.slice Ao74 t575.length co74)) (fun _ hk => hk.2) (.slice Ao75 t578.length co75)) (fun _ h_ => h_.1))) hb) (Kd.R_base ho0)) (Kd.R_base ho1)) (fun _ h_ => h_.1)); replace HO552 := Aside0.mk (Kd.R_elder' (by (with_reducible repeat (first | apply Kd.R_alloc | apply Kd.R_drewN | apply Kd.R_drew)); exact (Kd.R_mono (Kd.R_far (p := ⟨gb582, 2, none⟩) (Kd.R_far (p := ⟨gb582, 1, none⟩) (Kd.R_far (p := ⟨gb582, 0, none⟩) (Kd.R_types HO552.out BK582.out (by decide)) (fun _ hk => hk.2) (.int .i64 t574)) (fun _ hk => hk.2) (.slice Ao74 t575.length co74)) (fun _ hk => hk.2) (.slice Ao75 t578.length co75)) (fun _ h_ => h_.1))) (Kd.R_base ho0) hb); replace HO555 := Aside0.mk (Kd.N_mono (Kd.N_told (Kd.N_told (Kd.N_old (by (with_reducible repeat (first | apply Kd.N_alloc | apply Kd.N_drewN | apply Kd.N_drew)); exact (Kd.N_mono (Kd.N_far (p := ⟨gb582, 2, none⟩) (Kd.N_far (p := ⟨gb582, 1, none⟩) (Kd.N_far (p := ⟨gb582, 0, none⟩) (Kd.N_mono HO555.out (fun k_ hk => (⟨hk, hk.2⟩ : _ ∧ k_ ≠ gb582))) (fun _ hk => hk.2) (.int .i64 t574)) (fun _ hk => hk.2) (.slice Ao74 t575.length co74)) (fun _ hk => hk.2) (.slice Ao75 t578.length co75)) (fun _ h_ => h_.1))) hb) (Kd.R_base ho0)) (Kd.R_base ho1)) (fun _ h_ => h_.1)); replace HO559 := Aside0.mk (Kd.R_elder' (by (with_reducible repeat (first | apply Kd.R_alloc | apply Kd.R_drewN | apply Kd.R_drew)); exact (Kd.R_mono (Kd.R_far (p := ⟨gb582, 2, none⟩) (Kd.R_far (p := ⟨gb582, 1, none⟩) (Kd.R_far (p := ⟨gb582, 0, none⟩) (Kd.R_types HO559.out BK582.out (by decide)) (fun _ hk => hk.2) (.int .i64 t574)) (fun _ hk => hk.2) (.slice Ao74 t575.length co74)) (fun _ hk => hk.2) (.slice Ao75 t578.length co75)) (fun _ h_ => h_.1))) (Kd.R_base ho0) hb); replace HO562 := Aside0.mk (Kd.N_mono (Kd.N_told (Kd.N_told (Kd.N_old (by (with_reducible repeat (first | apply Kd.N_alloc | apply Kd.N_drewN | apply Kd.N_drew)); exact (Kd.N_mono (Kd.N_far (p := ⟨gb582, 2, none⟩) (Kd.N_far (p := ⟨gb582, 1, none⟩) (Kd.N_far (p := ⟨gb582, 0, none⟩) (Kd.N_mono HO562.out (fun k_ hk => (⟨hk, hk.2⟩ : _ ∧ k_ ≠ gb582))) (fun _ hk => hk.2) (.int .i64 t574)) (fun _ hk => hk.2) (.slice Ao74 t575.length co74)) (fun _ hk => hk.2) (.slice Ao75 t578.length co75)) (fun _ h_ => h_.1))) hb) (Kd.R_base ho0)) (Kd.R_base ho1)) (fun _ h_ => h_.1)); replace HO568 := Aside0.mk (Kd.R_elder' (by (with_reducible repeat (first | apply Kd.R_alloc | apply Kd.R_drewN | apply Kd.R_drew)); exact (Kd.R_mono (Kd.R_far (p := ⟨gb582, 2, none⟩) (Kd.R_far (p := ⟨gb582, 1, none⟩) (Kd.R_far (p := ⟨gb582, 0, none⟩) (Kd.R_types HO568.out BK582.out (by decide)) (fun _ hk => hk.2) (.int .i64 t574)) (fun _ hk => hk.2) (.slice Ao74 t575.length co74)) (fun _ hk => hk.2) (.slice Ao75 t578.length co75)) (fun _ h_ => h_.1))) (Kd.R_base ho0) hb); replace HO571 := Aside0.mk (Kd.N_mono (Kd.N_told (Kd.N_told (Kd.N_old (by (with_reducible repeat (first | apply Kd.N_alloc | apply Kd.N_drewN | apply Kd.N_drew)); exact (Kd.N_mono (Kd.N_far (p := ⟨gb582, 2, none⟩) (Kd.N_far (p := ⟨gb582, 1, none⟩) (Kd.N_far (p := ⟨gb582, 0, none⟩) (Kd.N_mono HO571.out (fun k_ hk => (⟨hk, hk.2⟩ : _ ∧ k_ ≠ gb582))) (fun _ hk => hk.2) (.int .i64 t574)) (fun _ hk => hk.2) (.slice Ao74 t575.length co74)) (fun _ hk => hk.2) (.slice Ao75 t578.length co75)) (fun _ h_ => h_.1))) hb) (Kd.R_base ho0)) (Kd.R_base ho1)) (fun _ h_ => h_.1)); replace HO577 := Aside0.mk (Kd.R_elder' (by (with_reducible repeat (first | apply Kd.R_alloc | apply Kd.R_drewN | apply Kd.R_drew)); exact (Kd.R_mono (Kd.R_far (p := ⟨gb582, 2, none⟩) (Kd.R_far (p := ⟨gb582, 1, none⟩) (Kd.R_far (p := ⟨gb582, 0, none⟩) (Kd.R_types HO577.out BK582.out (by decide)) (fun _ hk => hk.2) (.int .i64 t574)) (fun _ hk => hk.2) (.slice Ao74 t575.length co74)) (fun _ hk => hk.2) (.slice Ao75 t578.length co75)) (fun _ h_ => h_.1))) (Kd.R_base ho0) hb); replace HO580 := Aside0.mk (Kd.N_mono (Kd.N_told (Kd.N_told (Kd.N_old (by (with_reducible repeat (first | apply Kd.N_alloc | apply Kd.N_drewN | apply Kd.N_drew)); exact (Kd.N_mono (Kd.N_far (p := ⟨gb582, 2, none⟩) (Kd.N_far (p := ⟨gb582, 1, none⟩) (Kd.N_far (p := ⟨gb582, 0, none⟩) (Kd.N_mono HO580.out (fun k_ hk => (⟨hk, hk.2⟩ : _ ∧ k_ ≠ gb582))) (fun _ hk => hk.2) (.int .i64 t574)) (fun _ hk => hk.2) (.slice Ao74 t575.length co74)) (fun _ hk => hk.2) (.slice Ao75 t578.length co75)) (fun _ h_ => h_.1))) hb) (Kd.R_base ho0)) (Kd.R_base ho1)) (fun _ h_ => h_.1)); replace BK542 := Aside0.mk (blk_below (g := gb542) (o := .cells #[.int .i64 t535, .slice Ao9 t536.length co9, .slice Ao10 t539.length co10] 30 (0, 0)) (by (with_reducible repeat (first | refine blk_drewN ?_ _ | refine blk_drew ?_ | refine blk_alloc ?_ _)); refine blk_far ?_ NB542_582.out _; (with_reducible repeat (first | refine blk_drewN ?_ _ | refine blk_drew ?_ | refine blk_alloc ?_ _)); refine blk_far ?_ NB542_582.out _; (with_reducible repeat (first | refine blk_drewN ?_ _ | refine blk_drew ?_ | refine blk_alloc ?_ _)); refine blk_far ?_ NB542_582.out _; (with_reducible repeat (first | refine blk_drewN ?_ _ | refine blk_drew ?_ | refine blk_alloc ?_ _)); exact BK542.out) hb); replace BK563 := Aside0.mk (blk_below (g := gb563) (o := .cells #[.int .i64 t549, .slice Ao53 t550.length co53, .slice Ao54 t553.length co54] 30 (0, 0)) (by (with_reducible repeat (first | refine blk_drewN ?_ _ | refine blk_drew ?_ | refine blk_alloc ?_ _)); refine blk_far ?_ NB563_582.out _; (with_reducible repeat (first | refine blk_drewN ?_ _ | refine blk_drew ?_ | refine blk_alloc ?_ _)); refine blk_far ?_ NB563_582.out _; (with_reducible repeat (first | refine blk_drewN ?_ _ | refine blk_drew ?_ | refine blk_alloc ?_ _)); refine blk_far ?_ NB563_582.out _; (with_reducible repeat (first | refine blk_drewN ?_ _ | refine blk_drew ?_ | refine blk_alloc ?_ _)); exact BK563.out) hb); replace BK564 := Aside0.mk (blk_below (g := gb564) (o := .cells #[.int .i64 t556, .slice Ao57 t557.length co57, .slice Ao58 t560.length co58] 30 (0, 0)) (by (with_reducible repeat (first | refine blk_drewN ?_ _ | refine blk_drew ?_ | refine blk_alloc ?_ _)); refine blk_far ?_ NB564_582.out _; (with_reducible repeat (first | refine blk_drewN ?_ _ | refine blk_drew ?_ | refine blk_alloc ?_ _)); refine blk_far ?_ NB564_582.out _; (with_reducible repeat (first | refine blk_drewN ?_ _ | refine blk_drew ?_ | refine blk_alloc ?_ _)); refine blk_far ?_ NB564_582.out _; (with_reducible repeat (first | refine blk_drewN ?_ _ | refine blk_drew ?_ | refine blk_alloc ?_ _)); exact BK564.out) hb); replace BK573 := Aside0.mk (blk_below (g := gb573) (o := .cells #[.int .i64 t565, .slice Ao65 t566.length co65, .slice Ao66 t569.length co66] 30 (0, 0)) (by (with_reducible repeat (first | refine blk_drewN ?_ _ | refine blk_drew ?_ | refine blk_alloc ?_ _)); refine blk_far ?_ NB573_582.out _; (with_reducible repeat (first | refine blk_drewN ?_ _ | refine blk_drew ?_ | refine blk_alloc ?_ _)); refine blk_far ?_ NB573_582.out _; (with_reducible repeat (first | refine blk_drewN ?_ _ | refine blk_drew ?_ | refine blk_alloc ?_ _)); refine blk_far ?_ NB573_582.out _; (with_reducible repeat (first | refine blk_drewN ?_ _ | refine blk_drew ?_ | refine blk_alloc ?_ _)); exact BK573.out) hb); replace BK582 := Aside0.mk (blk_below (g := gb582) (o := .cells #[.int .i64 t574, .slice Ao74 t575.length co74, .slice Ao75 t578.length co75] 30 (0, 0)) (by (with_reducible repeat (first | refine blk_drewN ?_ _ | refine blk_drew ?_ | refine blk_alloc ?_ _)); refine blk_put (cs := #[.int .i64 t574, .slice Ao74 t575.length co74, .slice none 0 0]) ?_ 2 _ rfl; (with_reducible repeat (first | refine blk_drewN ?_ _ | refine blk_drew ?_ | refine blk_alloc ?_ _)); refine blk_put (cs := #[.int .i64 t574, .slice none 0 0, .slice none 0 0]) ?_ 1 _ rfl; (with_reducible repeat (first | refine blk_drewN ?_ _ | refine blk_drew ?_ | refine blk_alloc ?_ _)); refine blk_put (cs := #[.int .i64 0, .slice none 0 0, .slice none 0 0]) ?_ 0 _ rfl; (with_reducible repeat (first | refine blk_drewN ?_ _ | refine blk_drew ?_ | refine blk_alloc ?_ _)); exact BK582.out) hb); replace HB := Aside0.mk (below_step (B5_ HB.out GE542.out GE563.out GE564.out GE573.out GE582.out) hb); (try clear hb); (try clear hb2); (try clear hk); (try clear hi); (try clear ho0); (try clear ho1)) | ((with_reducible refine gate_dst (N := 13) rfl ?_); refine box_event ?hg (N := 13) ?hd (cs := #[.int .i64 0, .slice none 0 0, .slice none 0 0]) (t := 30) ?hr ?_; (case hd => rfl); (case hg => rfl); (case hr => first | (go_simp; done) | (go_simp; rfl)); intro gb591 hg w78 hbox hb; replace HO_543001 := rb_ HO_543001 hb; replace HO_543002 := Aside0.mk (Kd.N_below (Kd.N_elderB (N_ HO_543002.out) gb591 (Nat.le_of_eq hg.symm)) hb); replace HO552 := rb_ HO552 hb; replace HO555 := Aside0.mk (Kd.N_below (Kd.N_elderB (N_ HO555.out) gb591 (Nat.le_of_eq hg.symm)) hb); replace HO559 := rb_ HO559 hb; replace HO562 := Aside0.mk (Kd.N_below (Kd.N_elderB (N_ HO562.out) gb591 (Nat.le_of_eq hg.symm)) hb); replace HO568 := rb_ HO568 hb; replace HO571 := Aside0.mk (Kd.N_below (Kd.N_elderB (N_ HO571.out) gb591 (Nat.le_of_eq hg.symm)) hb); replace HO577 := rb_ HO577 hb; replace HO580 := Aside0.mk (Kd.N_below (Kd.N_elderB (N_ HO580.out) gb591 (Nat.le_of_eq hg.symm)) hb); replace HO586 := rb_ HO586 hb; replace HO589 := Aside0.mk (Kd.N_below (Kd.N_elderB (N_ HO589.out) gb591 (Nat.le_of_eq hg.symm)) hb); have BK591 := Aside0.mk (hbox); have GW591 := Aside0.mk ((by rw [hg]; exact (below_size (B5_ HB.out GE542.out GE563.out GE564.out GE573.out GE582.out)) : w.heap.size ≤ gb591)); have GE591 := Aside0.mk ((by rw [hg]; exact (below_size (B5_ HB.out GE542.out GE563.out GE564.out GE573.out GE582.out)) : w.heap.size ≤ gb591)); replace HB := Aside0.mk (below_step (B5_ HB.out GE542.out GE563.out GE564.out GE573.out GE582.out) hb); have NB542_591 := Aside0.mk ((by rw [hg]; exact Nat.ne_of_lt (blk_lt (K_ BK542.out)) : gb542 ≠ gb591)); have NB591_542 := Aside0.mk ((by rw [hg]; exact Nat.ne_of_gt (blk_lt (K_ BK542.out)) : gb591 ≠ gb542)); replace BK542 := kb_ BK542 hb; have NB563_591 := Aside0.mk ((by rw [hg]; exact Nat.ne_of_lt (blk_lt (K_ BK563.out)) : gb563 ≠ gb591)); have NB591_563 := Aside0.mk ((by rw [hg]; exact Nat.ne_of_gt (blk_lt (K_ BK563.out)) : gb591 ≠ gb563)); replace BK563 := kb_ BK563 hb; have NB564_591 := Aside0.mk ((by rw [hg]; exact Nat.ne_of_lt (blk_lt (K_ BK564.out)) : gb564 ≠ gb591)); have NB591_564 := Aside0.mk ((by rw [hg]; exact Nat.ne_of_gt (blk_lt (K_ BK564.out)) : gb591 ≠ gb564)); replace BK564 := kb_ BK564 hb; have NB573_591 := Aside0.mk ((by rw [hg]; exact Nat.ne_of_lt (blk_lt (K_ BK573.out)) : gb573 ≠ gb591)); have NB591_573 := Aside0.mk ((by rw [hg]; exact Nat.ne_of_gt (blk_lt (K_ BK573.out)) : gb591 ≠ gb573)); replace BK573 := kb_ BK573 hb; have NB582_591 := Aside0.mk ((by rw [hg]; exact Nat.ne_of_lt (blk_lt (K_ BK582.out)) : gb582 ≠ gb591)); have NB591_582 := Aside0.mk ((by rw [hg]; exact Nat.ne_of_gt (blk_lt (K_ BK582.out)) : gb591 ≠ gb582)); replace BK582 := kb_ BK582 hb; clear hb hbox hg; have hnb79 := NB591_542.out; have hnc79 := NB542_591.out; have hnb80 := NB591_563.out; have hnc80 := NB563_591.out; have hnb81 := NB591_564.out; have hnc81 := NB564_591.out; have hnb82 := NB591_573.out; have hnc82 := NB573_591.out; have hnb83 := NB591_582.out; have hnc83 := NB582_591.out; obtain ⟨hcz84_0, hcz84_1, hcz84_2, hfz84_0, hfz84_1, hfz84_2⟩ := box3_ BK591.out; obtain ⟨Ao85, co85, eo85⟩ := Kd.R_slice HO586.out; subst eo85; obtain ⟨Ao86, co86, eo86⟩ := Kd.N_slice HO589.out; subst eo86))
     have n0_ : Aside0 (Kd.R Kd.string 9 (((w78.setCell ⟨gb591, 0, none⟩ (.int .i64 t583)).setCell ⟨gb591, 1, none⟩ (.slice Ao85 t584.length co85)).setCell ⟨gb591, 2, none⟩ (.slice Ao86 t587.length co86)) w.heap.size (fun k_ => some k_ ≠ (.slice Ao53 t550.length co53 : Value).ownBlock ∧ some k_ ≠ (.slice Ao57 t557.length co57 : Value).ownBlock ∧ some k_ ≠ (.slice Ao65 t566.length co65 : Value).ownBlock ∧ some k_ ≠ (.slice Ao74 t575.length co74 : Value).ownBlock ∧ some k_ ≠ (.slice Ao85 t584.length co85 : Value).ownBlock) (.slice Ao9 t536.length co9) t536) := ⟨by (with_reducible repeat (first | apply Kd.R_alloc | apply Kd.R_drewN | apply Kd.R_drew)); exact Kd.R_mono (Kd.R_far (p := ⟨gb591, 2, none⟩) (Kd.R_far (p := ⟨gb591, 1, none⟩) (Kd.R_far (p := ⟨gb591, 0, none⟩) (Kd.R_types HO_543001.out BK591.out (by decide)) (fun _ hk => hk.2) (.int .i64 t583)) (fun _ hk => hk.2) (.slice Ao85 t584.length co85)) (fun _ hk => hk.2) (.slice Ao86 t587.length co86)) (fun _ hk => ⟨hk.1.1.1.1.1.2, ⟨hk.1.1.1.1.2, ⟨hk.1.1.1.2, ⟨hk.1.1.2, hk.1.2⟩⟩⟩⟩)⟩
     have n1_ : Aside0 (Kd.N k30 30 (((w78.setCell ⟨gb591, 0, none⟩ (.int .i64 t583)).setCell ⟨gb591, 1, none⟩ (.slice Ao85 t584.length co85)).setCell ⟨gb591, 2, none⟩ (.slice Ao86 t587.length co86)) w.heap.size (fun k_ => some k_ ≠ (.slice Ao9 t536.length co9 : Value).ownBlock ∧ some k_ ≠ (.slice Ao53 t550.length co53 : Value).ownBlock ∧ some k_ ≠ (.slice Ao54 t553.length co54 : Value).ownBlock ∧ some k_ ≠ (.slice Ao57 t557.length co57 : Value).ownBlock ∧ some k_ ≠ (.slice Ao58 t560.length co58 : Value).ownBlock ∧ some k_ ≠ (.slice Ao65 t566.length co65 : Value).ownBlock ∧ some k_ ≠ (.slice Ao66 t569.length co66 : Value).ownBlock ∧ some k_ ≠ (.slice Ao74 t575.length co74 : Value).ownBlock ∧ some k_ ≠ (.slice Ao75 t578.length co75 : Value).ownBlock ∧ some k_ ≠ (.slice Ao85 t584.length co85 : Value).ownBlock ∧ some k_ ≠ (.slice Ao86 t587.length co86 : Value).ownBlock ∧ k_ ≠ gb542 ∧ k_ ≠ gb563 ∧ k_ ≠ gb564 ∧ k_ ≠ gb573 ∧ k_ ≠ gb582 ∧ k_ ≠ gb591) (.slice Ao10 t539.length co10) t539) := ⟨by (with_reducible repeat (first | apply Kd.N_alloc | apply Kd.N_drewN | apply Kd.N_drew)); exact Kd.N_mono (Kd.N_far (p := ⟨gb591, 2, none⟩) (Kd.N_far (p := ⟨gb591, 1, none⟩) (Kd.N_far (p := ⟨gb591, 0, none⟩) (Kd.N_mono HO_543002.out (fun k_ hk => (⟨hk, hk.2⟩ : _ ∧ k_ ≠ gb591))) (fun _ hk => hk.2) (.int .i64 t583)) (fun _ hk => hk.2) (.slice Ao85 t584.length co85)) (fun _ hk => hk.2) (.slice Ao86 t587.length co86)) (fun _ hk => ⟨hk.1.1.1.1.1.1.1.1.1.1.1.1.1.1.1.1.1, ⟨hk.1.1.1.1.1.1.1.1.1.1.1.1.1.1.1.2, ⟨hk.1.1.1.1.1.1.1.1.1.1.1.1.1.1.2, ⟨hk.1.1.1.1.1.1.1.1.1.1.1.1.1.2, ⟨hk.1.1.1.1.1.1.1.1.1.1.1.1.2, ⟨hk.1.1.1.1.1.1.1.1.1.2, ⟨hk.1.1.1.1.1.1.1.1.2, ⟨hk.1.1.1.1.1.1.2, ⟨hk.1.1.1.1.1.2, ⟨hk.1.1.1.2, ⟨hk.1.1.2, ⟨hk.1.1.1.1.1.1.1.1.1.1.1.1.1.1.1.1.2, ⟨hk.1.1.1.1.1.1.1.1.1.1.1.2, ⟨hk.1.1.1.1.1.1.1.1.1.1.2, ⟨hk.1.1.1.1.1.1.1.2, ⟨hk.1.1.1.1.2, hk.1.2⟩⟩⟩⟩⟩⟩⟩⟩⟩⟩⟩⟩⟩⟩⟩⟩)⟩
     have n2_ : Aside0 (Kd.R Kd.string 9 (((w78.setCell ⟨gb591, 0, none⟩ (.int .i64 t583)).setCell ⟨gb591, 1, none⟩ (.slice Ao85 t584.length co85)).setCell ⟨gb591, 2, none⟩ (.slice Ao86 t587.length co86)) w.heap.size (fun k_ => some k_ ≠ (.slice Ao9 t536.length co9 : Value).ownBlock ∧ some k_ ≠ (.slice Ao57 t557.length co57 : Value).ownBlock ∧ some k_ ≠ (.slice Ao65 t566.length co65 : Value).ownBlock ∧ some k_ ≠ (.slice Ao74 t575.length co74 : Value).ownBlock ∧ some k_ ≠ (.slice Ao85 t584.length co85 : Value).ownBlock) (.slice Ao53 t550.length co53) t550) := ⟨by (with_reducible repeat (first | apply Kd.R_alloc | apply Kd.R_drewN | apply Kd.R_drew)); exact Kd.R_mono (Kd.R_far (p := ⟨gb591, 2, none⟩) (Kd.R_far (p := ⟨gb591, 1, none⟩) (Kd.R_far (p := ⟨gb591, 0, none⟩) (Kd.R_types HO552.out BK591.out (by decide)) (fun _ hk => hk.2) (.int .i64 t583)) (fun _ hk => hk.2) (.slice Ao85 t584.length co85)) (fun _ hk => hk.2) (.slice Ao86 t587.length co86)) (fun _ hk => ⟨hk.1.1.1.1.2, ⟨hk.1.1.1.1.1, ⟨hk.1.1.1.2, ⟨hk.1.1.2, hk.1.2⟩⟩⟩⟩)⟩
     have n3_ : Aside0 (Kd.N k30 30 (((w78.setCell ⟨gb591, 0, none⟩ (.int .i64 t583)).setCell ⟨gb591, 1, none⟩ (.slice Ao85 t584.length co85)).setCell ⟨gb591, 2, none⟩ (.slice Ao86 t587.length co86)) w.heap.size (fun k_ => some k_ ≠ (.slice Ao9 t536.length co9 : Value).ownBlock ∧ some k_ ≠ (.slice Ao10 t539.length co10 : Value).ownBlock ∧ some k_ ≠ (.slice Ao53 t550.length co53 : Value).ownBlock ∧ some k_ ≠ (.slice Ao57 t557.length co57 : Value).ownBlock ∧ some k_ ≠ (.slice Ao58 t560.length co58 : Value).ownBlock ∧ some k_ ≠ (.slice Ao65 t566.length co65 : Value).ownBlock ∧ some k_ ≠ (.slice Ao66 t569.length co66 : Value).ownBlock ∧ some k_ ≠ (.slice Ao74 t575.length co74 : Value).ownBlock ∧ some k_ ≠ (.slice Ao75 t578.length co75 : Value).ownBlock ∧ some k_ ≠ (.slice Ao85 t584.length co85 : Value).ownBlock ∧ some k_ ≠ (.slice Ao86 t587.length co86 : Value).ownBlock ∧ k_ ≠ gb542 ∧ k_ ≠ gb563 ∧ k_ ≠ gb564 ∧ k_ ≠ gb573 ∧ k_ ≠ gb582 ∧ k_ ≠ gb591) (.slice Ao54 t553.length co54) t553) := ⟨by (with_reducible repeat (first | apply Kd.N_alloc | apply Kd.N_drewN | apply Kd.N_drew)); exact Kd.N_mono (Kd.N_far (p := ⟨gb591, 2, none⟩) (Kd.N_far (p := ⟨gb591, 1, none⟩) (Kd.N_far (p := ⟨gb591, 0, none⟩) (Kd.N_mono HO555.out (fun k_ hk => (⟨hk, hk.2⟩ : _ ∧ k_ ≠ gb591))) (fun _ hk => hk.2) (.int .i64 t583)) (fun _ hk => hk.2) (.slice Ao85 t584.length co85)) (fun _ hk => hk.2) (.slice Ao86 t587.length co86)) (fun _ hk => ⟨hk.1.1.1.1.1.1.1.1.1.1.1.1.2.2.2.1, ⟨hk.1.1.1.1.1.1.1.1.1.1.1.1.2.2.2.2.1, ⟨hk.1.1.1.1.1.1.1.1.1.1.1.1.1, ⟨hk.1.1.1.1.1.1.1.1.1.1.1.1.2.1, ⟨hk.1.1.1.1.1.1.1.1.1.1.1.1.2.2.1, ⟨hk.1.1.1.1.1.1.1.1.1.2, ⟨hk.1.1.1.1.1.1.1.1.2, ⟨hk.1.1.1.1.1.1.2, ⟨hk.1.1.1.1.1.2, ⟨hk.1.1.1.2, ⟨hk.1.1.2, ⟨hk.1.1.1.1.1.1.1.1.1.1.1.1.2.2.2.2.2, ⟨hk.1.1.1.1.1.1.1.1.1.1.1.2, ⟨hk.1.1.1.1.1.1.1.1.1.1.2, ⟨hk.1.1.1.1.1.1.1.2, ⟨hk.1.1.1.1.2, hk.1.2⟩⟩⟩⟩⟩⟩⟩⟩⟩⟩⟩⟩⟩⟩⟩⟩)⟩
     have n4_ : Aside0 (Kd.R Kd.string 9 (((w78.setCell ⟨gb591, 0, none⟩ (.int .i64 t583)).setCell ⟨gb591, 1, none⟩ (.slice Ao85 t584.length co85)).setCell ⟨gb591, 2, none⟩ (.slice Ao86 t587.length co86)) w.heap.size (fun k_ => some k_ ≠ (.slice Ao9 t536.length co9 : Value).ownBlock ∧ some k_ ≠ (.slice Ao53 t550.length co53 : Value).ownBlock ∧ some k_ ≠ (.slice Ao65 t566.length co65 : Value).ownBlock ∧ some k_ ≠ (.slice Ao74 t575.length co74 : Value).ownBlock ∧ some k_ ≠ (.slice Ao85 t584.length co85 : Value).ownBlock) (.slice Ao57 t557.length co57) t557) := ⟨by (with_reducible repeat (first | apply Kd.R_alloc | apply Kd.R_drewN | apply Kd.R_drew)); exact Kd.R_mono (Kd.R_far (p := ⟨gb591, 2, none⟩) (Kd.R_far (p := ⟨gb591, 1, none⟩) (Kd.R_far (p := ⟨gb591, 0, none⟩) (Kd.R_types HO559.out BK591.out (by decide)) (fun _ hk => hk.2) (.int .i64 t583)) (fun _ hk => hk.2) (.slice Ao85 t584.length co85)) (fun _ hk => hk.2) (.slice Ao86 t587.length co86)) (fun _ hk => ⟨hk.1.1.1.1.2, ⟨hk.1.1.1.1.1, ⟨hk.1.1.1.2, ⟨hk.1.1.2, hk.1.2⟩⟩⟩⟩)⟩
     have n5_ : Aside0 (Kd.N k30 30 (((w78.setCell ⟨gb591, 0, none⟩ (.int .i64 t583)).setCell ⟨gb591, 1, none⟩ (.slice Ao85 t584.length co85)).setCell ⟨gb591, 2, none⟩ (.slice Ao86 t587.length co86)) w.heap.size (fun k_ => some k_ ≠ (.slice Ao9 t536.length co9 : Value).ownBlock ∧ some k_ ≠ (.slice Ao10 t539.length co10 : Value).ownBlock ∧ some k_ ≠ (.slice Ao53 t550.length co53 : Value).ownBlock ∧ some k_ ≠ (.slice Ao54 t553.length co54 : Value).ownBlock ∧ some k_ ≠ (.slice Ao57 t557.length co57 : Value).ownBlock ∧ some k_ ≠ (.slice Ao65 t566.length co65 : Value).ownBlock ∧ some k_ ≠ (.slice Ao66 t569.length co66 : Value).ownBlock ∧ some k_ ≠ (.slice Ao74 t575.length co74 : Value).ownBlock ∧ some k_ ≠ (.slice Ao75 t578.length co75 : Value).ownBlock ∧ some k_ ≠ (.slice Ao85 t584.length co85 : Value).ownBlock ∧ some k_ ≠ (.slice Ao86 t587.length co86 : Value).ownBlock ∧ k_ ≠ gb542 ∧ k_ ≠ gb563 ∧ k_ ≠ gb564 ∧ k_ ≠ gb573 ∧ k_ ≠ gb582 ∧ k_ ≠ gb591) (.slice Ao58 t560.length co58) t560) := ⟨by (with_reducible repeat (first | apply Kd.N_alloc | apply Kd.N_drewN | apply Kd.N_drew)); exact Kd.N_mono (Kd.N_far (p := ⟨gb591, 2, none⟩) (Kd.N_far (p := ⟨gb591, 1, none⟩) (Kd.N_far (p := ⟨gb591, 0, none⟩) (Kd.N_mono HO562.out (fun k_ hk => (⟨hk, hk.2⟩ : _ ∧ k_ ≠ gb591))) (fun _ hk => hk.2) (.int .i64 t583)) (fun _ hk => hk.2) (.slice Ao85 t584.length co85)) (fun _ hk => hk.2) (.slice Ao86 t587.length co86)) (fun _ hk => ⟨hk.1.1.1.1.1.1.1.1.1.1.1.1.2.2.2.1, ⟨hk.1.1.1.1.1.1.1.1.1.1.1.1.2.2.2.2.1, ⟨hk.1.1.1.1.1.1.1.1.1.1.1.1.1, ⟨hk.1.1.1.1.1.1.1.1.1.1.1.1.2.1, ⟨hk.1.1.1.1.1.1.1.1.1.1.1.1.2.2.1, ⟨hk.1.1.1.1.1.1.1.1.1.2, ⟨hk.1.1.1.1.1.1.1.1.2, ⟨hk.1.1.1.1.1.1.2, ⟨hk.1.1.1.1.1.2, ⟨hk.1.1.1.2, ⟨hk.1.1.2, ⟨hk.1.1.1.1.1.1.1.1.1.1.1.1.2.2.2.2.2, ⟨hk.1.1.1.1.1.1.1.1.1.1.1.2, ⟨hk.1.1.1.1.1.1.1.1.1.1.2, ⟨hk.1.1.1.1.1.1.1.2, ⟨hk.1.1.1.1.2, hk.1.2⟩⟩⟩⟩⟩⟩⟩⟩⟩⟩⟩⟩⟩⟩⟩⟩)⟩
     have n6_ : Aside0 (Kd.R Kd.string 9 (((w78.setCell ⟨gb591, 0, none⟩ (.int .i64 t583)).setCell ⟨gb591, 1, none⟩ (.slice Ao85 t584.length co85)).setCell ⟨gb591, 2, none⟩ (.slice Ao86 t587.length co86)) w.heap.size (fun k_ => some k_ ≠ (.slice Ao9 t536.length co9 : Value).ownBlock ∧ some k_ ≠ (.slice Ao53 t550.length co53 : Value).ownBlock ∧ some k_ ≠ (.slice Ao57 t557.length co57 : Value).ownBlock ∧ some k_ ≠ (.slice Ao74 t575.length co74 : Value).ownBlock ∧ some k_ ≠ (.slice Ao85 t584.length co85 : Value).ownBlock) (.slice Ao65 t566.length co65) t566) := ⟨by (with_reducible repeat (first | apply Kd.R_alloc | apply Kd.R_drewN | apply Kd.R_drew)); exact Kd.R_mono (Kd.R_far (p := ⟨gb591, 2, none⟩) (Kd.R_far (p := ⟨gb591, 1, none⟩) (Kd.R_far (p := ⟨gb591, 0, none⟩) (Kd.R_types HO568.out BK591.out (by decide)) (fun _ hk => hk.2) (.int .i64 t583)) (fun _ hk => hk.2) (.slice Ao85 t584.length co85)) (fun _ hk => hk.2) (.slice Ao86 t587.length co86)) (fun _ hk => ⟨hk.1.1.1.1.1.2, ⟨hk.1.1.1.1.2, ⟨hk.1.1.1.2, ⟨hk.1.1.2, hk.1.2⟩⟩⟩⟩)⟩
     have n7_ : Aside0 (Kd.N k30 30 (((w78.setCell ⟨gb591, 0, none⟩ (.int .i64 t583)).setCell ⟨gb591, 1, none⟩ (.slice Ao85 t584.length co85)).setCell ⟨gb591, 2, none⟩ (.slice Ao86 t587.length co86)) w.heap.size (fun k_ => some k_ ≠ (.slice Ao9 t536.length co9 : Value).ownBlock ∧ some k_ ≠ (.slice Ao10 t539.length co10 : Value).ownBlock ∧ some k_ ≠ (.slice Ao53 t550.length co53 : Value).ownBlock ∧ some k_ ≠ (.slice Ao54 t553.length co54 : Value).ownBlock ∧ some k_ ≠ (.slice Ao57 t557.length co57 : Value).ownBlock ∧ some k_ ≠ (.slice Ao58 t560.length co58 : Value).ownBlock ∧ some k_ ≠ (.slice Ao65 t566.length co65 : Value).ownBlock ∧ some k_ ≠ (.slice Ao74 t575.length co74 : Value).ownBlock ∧ some k_ ≠ (.slice Ao75 t578.length co75 : Value).ownBlock ∧ some k_ ≠ (.slice Ao85 t584.length co85 : Value).ownBlock ∧ some k_ ≠ (.slice Ao86 t587.length co86 : Value).ownBlock ∧ k_ ≠ gb542 ∧ k_ ≠ gb563 ∧ k_ ≠ gb564 ∧ k_ ≠ gb573 ∧ k_ ≠ gb582 ∧ k_ ≠ gb591) (.slice Ao66 t569.length co66) t569) := ⟨by (with_reducible repeat (first | apply Kd.N_alloc | apply Kd.N_drewN | apply Kd.N_drew)); exact Kd.N_mono (Kd.N_far (p := ⟨gb591, 2, none⟩) (Kd.N_far (p := ⟨gb591, 1, none⟩) (Kd.N_far (p := ⟨gb591, 0, none⟩) (Kd.N_mono HO571.out (fun k_ hk => (⟨hk, hk.2⟩ : _ ∧ k_ ≠ gb591))) (fun _ hk => hk.2) (.int .i64 t583)) (fun _ hk => hk.2) (.slice Ao85 t584.length co85)) (fun _ hk => hk.2) (.slice Ao86 t587.length co86)) (fun _ hk => ⟨hk.1.1.1.1.1.1.1.1.2.1, ⟨hk.1.1.1.1.1.1.1.1.2.2.1, ⟨hk.1.1.1.1.1.1.1.1.2.2.2.1, ⟨hk.1.1.1.1.1.1.1.1.2.2.2.2.1, ⟨hk.1.1.1.1.1.1.1.1.2.2.2.2.2.1, ⟨hk.1.1.1.1.1.1.1.1.2.2.2.2.2.2.1, ⟨hk.1.1.1.1.1.1.1.1.1, ⟨hk.1.1.1.1.1.1.2, ⟨hk.1.1.1.1.1.2, ⟨hk.1.1.1.2, ⟨hk.1.1.2, ⟨hk.1.1.1.1.1.1.1.1.2.2.2.2.2.2.2.1, ⟨hk.1.1.1.1.1.1.1.1.2.2.2.2.2.2.2.2.1, ⟨hk.1.1.1.1.1.1.1.1.2.2.2.2.2.2.2.2.2, ⟨hk.1.1.1.1.1.1.1.2, ⟨hk.1.1.1.1.2, hk.1.2⟩⟩⟩⟩⟩⟩⟩⟩⟩⟩⟩⟩⟩⟩⟩⟩)⟩
     have n8_ : Aside0 (Kd.R Kd.string 9 (((w78.setCell ⟨gb591, 0, none⟩ (.int .i64 t583)).setCell ⟨gb591, 1, none⟩ (.slice Ao85 t584.length co85)).setCell ⟨gb591, 2, none⟩ (.slice Ao86 t587.length co86)) w.heap.size (fun k_ => some k_ ≠ (.slice Ao9 t536.length co9 : Value).ownBlock ∧ some k_ ≠ (.slice Ao53 t550.length co53 : Value).ownBlock ∧ some k_ ≠ (.slice Ao57 t557.length co57 : Value).ownBlock ∧ some k_ ≠ (.slice Ao65 t566.length co65 : Value).ownBlock ∧ some k_ ≠ (.slice Ao85 t584.length co85 : Value).ownBlock) (.slice Ao74 t575.length co74) t575) := ⟨by (with_reducible repeat (first | apply Kd.R_alloc | apply Kd.R_drewN | apply Kd.R_drew)); exact Kd.R_mono (Kd.R_far (p := ⟨gb591, 2, none⟩) (Kd.R_far (p := ⟨gb591, 1, none⟩) (Kd.R_far (p := ⟨gb591, 0, none⟩) (Kd.R_types HO577.out BK591.out (by decide)) (fun _ hk => hk.2) (.int .i64 t583)) (fun _ hk => hk.2) (.slice Ao85 t584.length co85)) (fun _ hk => hk.2) (.slice Ao86 t587.length co86)) (fun _ hk => ⟨hk.1.1.1.1.1.2, ⟨hk.1.1.1.1.2, ⟨hk.1.1.1.2, ⟨hk.1.1.2, hk.1.2⟩⟩⟩⟩)⟩
     have n9_ : Aside0 (Kd.N k30 30 (((w78.setCell ⟨gb591, 0, none⟩ (.int .i64 t583)).setCell ⟨gb591, 1, none⟩ (.slice Ao85 t584.length co85)).setCell ⟨gb591, 2, none⟩ (.slice Ao86 t587.length co86)) w.heap.size (fun k_ => some k_ ≠ (.slice Ao9 t536.length co9 : Value).ownBlock ∧ some k_ ≠ (.slice Ao10 t539.length co10 : Value).ownBlock ∧ some k_ ≠ (.slice Ao53 t550.length co53 : Value).ownBlock ∧ some k_ ≠ (.slice Ao54 t553.length co54 : Value).ownBlock ∧ some k_ ≠ (.slice Ao57 t557.length co57 : Value).ownBlock ∧ some k_ ≠ (.slice Ao58 t560.length co58 : Value).ownBlock ∧ some k_ ≠ (.slice Ao65 t566.length co65 : Value).ownBlock ∧ some k_ ≠ (.slice Ao66 t569.length co66 : Value).ownBlock ∧ some k_ ≠ (.slice Ao74 t575.length co74 : Value).ownBlock ∧ some k_ ≠ (.slice Ao85 t584.length co85 : Value).ownBlock ∧ some k_ ≠ (.slice Ao86 t587.length co86 : Value).ownBlock ∧ k_ ≠ gb542 ∧ k_ ≠ gb563 ∧ k_ ≠ gb564 ∧ k_ ≠ gb573 ∧ k_ ≠ gb582 ∧ k_ ≠ gb591) (.slice Ao75 t578.length co75) t578) := ⟨by (with_reducible repeat (first | apply Kd.N_alloc | apply Kd.N_drewN | apply Kd.N_drew)); exact Kd.N_mono (Kd.N_far (p := ⟨gb591, 2, none⟩) (Kd.N_far (p := ⟨gb591, 1, none⟩) (Kd.N_far (p := ⟨gb591, 0, none⟩) (Kd.N_mono HO580.out (fun k_ hk => (⟨hk, hk.2⟩ : _ ∧ k_ ≠ gb591))) (fun _ hk => hk.2) (.int .i64 t583)) (fun _ hk => hk.2) (.slice Ao85 t584.length co85)) (fun _ hk => hk.2) (.slice Ao86 t587.length co86)) (fun _ hk => ⟨hk.1.1.1.1.1.2.1, ⟨hk.1.1.1.1.1.2.2.1, ⟨hk.1.1.1.1.1.2.2.2.1, ⟨hk.1.1.1.1.1.2.2.2.2.1, ⟨hk.1.1.1.1.1.2.2.2.2.2.1, ⟨hk.1.1.1.1.1.2.2.2.2.2.2.1, ⟨hk.1.1.1.1.1.2.2.2.2.2.2.2.1, ⟨hk.1.1.1.1.1.2.2.2.2.2.2.2.2.1, ⟨hk.1.1.1.1.1.1, ⟨hk.1.1.1.2, ⟨hk.1.1.2, ⟨hk.1.1.1.1.1.2.2.2.2.2.2.2.2.2.1, ⟨hk.1.1.1.1.1.2.2.2.2.2.2.2.2.2.2.1, ⟨hk.1.1.1.1.1.2.2.2.2.2.2.2.2.2.2.2.1, ⟨hk.1.1.1.1.1.2.2.2.2.2.2.2.2.2.2.2.2, ⟨hk.1.1.1.1.2, hk.1.2⟩⟩⟩⟩⟩⟩⟩⟩⟩⟩⟩⟩⟩⟩⟩⟩)⟩
     have n10_ : Aside0 (Kd.R Kd.string 9 (((w78.setCell ⟨gb591, 0, none⟩ (.int .i64 t583)).setCell ⟨gb591, 1, none⟩ (.slice Ao85 t584.length co85)).setCell ⟨gb591, 2, none⟩ (.slice Ao86 t587.length co86)) w.heap.size (fun k_ => some k_ ≠ (.slice Ao9 t536.length co9 : Value).ownBlock ∧ some k_ ≠ (.slice Ao53 t550.length co53 : Value).ownBlock ∧ some k_ ≠ (.slice Ao57 t557.length co57 : Value).ownBlock ∧ some k_ ≠ (.slice Ao65 t566.length co65 : Value).ownBlock ∧ some k_ ≠ (.slice Ao74 t575.length co74 : Value).ownBlock) (.slice Ao85 t584.length co85) t584) := ⟨by (with_reducible repeat (first | apply Kd.R_alloc | apply Kd.R_drewN | apply Kd.R_drew)); exact Kd.R_mono (Kd.R_far (p := ⟨gb591, 2, none⟩) (Kd.R_far (p := ⟨gb591, 1, none⟩) (Kd.R_far (p := ⟨gb591, 0, none⟩) (Kd.R_types HO586.out BK591.out (by decide)) (fun _ hk => hk.2) (.int .i64 t583)) (fun _ hk => hk.2) (.slice Ao85 t584.length co85)) (fun _ hk => hk.2) (.slice Ao86 t587.length co86)) (fun _ hk => ⟨hk.1.1.1.1.1.2, ⟨hk.1.1.1.1.2, ⟨hk.1.1.1.2, ⟨hk.1.1.2, hk.1.2⟩⟩⟩⟩)⟩
     have n11_ : Aside0 (Kd.N k30 30 (((w78.setCell ⟨gb591, 0, none⟩ (.int .i64 t583)).setCell ⟨gb591, 1, none⟩ (.slice Ao85 t584.length co85)).setCell ⟨gb591, 2, none⟩ (.slice Ao86 t587.length co86)) w.heap.size (fun k_ => some k_ ≠ (.slice Ao9 t536.length co9 : Value).ownBlock ∧ some k_ ≠ (.slice Ao10 t539.length co10 : Value).ownBlock ∧ some k_ ≠ (.slice Ao53 t550.length co53 : Value).ownBlock ∧ some k_ ≠ (.slice Ao54 t553.length co54 : Value).ownBlock ∧ some k_ ≠ (.slice Ao57 t557.length co57 : Value).ownBlock ∧ some k_ ≠ (.slice Ao58 t560.length co58 : Value).ownBlock ∧ some k_ ≠ (.slice Ao65 t566.length co65 : Value).ownBlock ∧ some k_ ≠ (.slice Ao66 t569.length co66 : Value).ownBlock ∧ some k_ ≠ (.slice Ao74 t575.length co74 : Value).ownBlock ∧ some k_ ≠ (.slice Ao75 t578.length co75 : Value).ownBlock ∧ some k_ ≠ (.slice Ao85 t584.length co85 : Value).ownBlock ∧ k_ ≠ gb542 ∧ k_ ≠ gb563 ∧ k_ ≠ gb564 ∧ k_ ≠ gb573 ∧ k_ ≠ gb582 ∧ k_ ≠ gb591) (.slice Ao86 t587.length co86) t587) := ⟨by (with_reducible repeat (first | apply Kd.N_alloc | apply Kd.N_drewN | apply Kd.N_drew)); exact Kd.N_mono (Kd.N_far (p := ⟨gb591, 2, none⟩) (Kd.N_far (p := ⟨gb591, 1, none⟩) (Kd.N_far (p := ⟨gb591, 0, none⟩) (Kd.N_mono HO589.out (fun k_ hk => (⟨hk, hk.2⟩ : _ ∧ k_ ≠ gb591))) (fun _ hk => hk.2) (.int .i64 t583)) (fun _ hk => hk.2) (.slice Ao85 t584.length co85)) (fun _ hk => hk.2) (.slice Ao86 t587.length co86)) (fun _ hk => ⟨hk.1.1.2.1, ⟨hk.1.1.2.2.1, ⟨hk.1.1.2.2.2.1, ⟨hk.1.1.2.2.2.2.1, ⟨hk.1.1.2.2.2.2.2.1, ⟨hk.1.1.2.2.2.2.2.2.1, ⟨hk.1.1.2.2.2.2.2.2.2.1, ⟨hk.1.1.2.2.2.2.2.2.2.2.1, ⟨hk.1.1.2.2.2.2.2.2.2.2.2.1, ⟨hk.1.1.2.2.2.2.2.2.2.2.2.2.1, ⟨hk.1.1.1, ⟨hk.1.1.2.2.2.2.2.2.2.2.2.2.2.1, ⟨hk.1.1.2.2.2.2.2.2.2.2.2.2.2.2.1, ⟨hk.1.1.2.2.2.2.2.2.2.2.2.2.2.2.2.1, ⟨hk.1.1.2.2.2.2.2.2.2.2.2.2.2.2.2.2.1, ⟨hk.1.1.2.2.2.2.2.2.2.2.2.2.2.2.2.2.2, hk.1.2⟩⟩⟩⟩⟩⟩⟩⟩⟩⟩⟩⟩⟩⟩⟩⟩)⟩
     have n12_ : Aside0 ((((w78.setCell ⟨gb591, 0, none⟩ (.int .i64 t583)).setCell ⟨gb591, 1, none⟩ (.slice Ao85 t584.length co85)).setCell ⟨gb591, 2, none⟩ (.slice Ao86 t587.length co86)).heap[gb542]? = some (.cells #[.int .i64 t535, .slice Ao9 t536.length co9, .slice Ao10 t539.length co10] 30 (0, 0))) := ⟨by (with_reducible repeat (first | refine blk_drewN ?_ _ | refine blk_drew ?_ | refine blk_alloc ?_ _)); refine blk_far ?_ NB542_591.out _; (with_reducible repeat (first | refine blk_drewN ?_ _ | refine blk_drew ?_ | refine blk_alloc ?_ _)); refine blk_far ?_ NB542_591.out _; (with_reducible repeat (first | refine blk_drewN ?_ _ | refine blk_drew ?_ | refine blk_alloc ?_ _)); refine blk_far ?_ NB542_591.out _; (with_reducible repeat (first | refine blk_drewN ?_ _ | refine blk_drew ?_ | refine blk_alloc ?_ _)); exact BK542.out⟩
     have n13_ : Aside0 ((((w78.setCell ⟨gb591, 0, none⟩ (.int .i64 t583)).setCell ⟨gb591, 1, none⟩ (.slice Ao85 t584.length co85)).setCell ⟨gb591, 2, none⟩ (.slice Ao86 t587.length co86)).heap[gb563]? = some (.cells #[.int .i64 t549, .slice Ao53 t550.length co53, .slice Ao54 t553.length co54] 30 (0, 0))) := ⟨by (with_reducible repeat (first | refine blk_drewN ?_ _ | refine blk_drew ?_ | refine blk_alloc ?_ _)); refine blk_far ?_ NB563_591.out _; (with_reducible repeat (first | refine blk_drewN ?_ _ | refine blk_drew ?_ | refine blk_alloc ?_ _)); refine blk_far ?_ NB563_591.out _; (with_reducible repeat (first | refine blk_drewN ?_ _ | refine blk_drew ?_ | refine blk_alloc ?_ _)); refine blk_far ?_ NB563_591.out _; (with_reducible repeat (first | refine blk_drewN ?_ _ | refine blk_drew ?_ | refine blk_alloc ?_ _)); exact BK563.out⟩
     have n14_ : Aside0 ((((w78.setCell ⟨gb591, 0, none⟩ (.int .i64 t583)).setCell ⟨gb591, 1, none⟩ (.slice Ao85 t584.length co85)).setCell ⟨gb591, 2, none⟩ (.slice Ao86 t587.length co86)).heap[gb564]? = some (.cells #[.int .i64 t556, .slice Ao57 t557.length co57, .slice Ao58 t560.length co58] 30 (0, 0))) := ⟨by (with_reducible repeat (first | refine blk_drewN ?_ _ | refine blk_drew ?_ | refine blk_alloc ?_ _)); refine blk_far ?_ NB564_591.out _; (with_reducible repeat (first | refine blk_drewN ?_ _ | refine blk_drew ?_ | refine blk_alloc ?_ _)); refine blk_far ?_ NB564_591.out _; (with_reducible repeat (first | refine blk_drewN ?_ _ | refine blk_drew ?_ | refine blk_alloc ?_ _)); refine blk_far ?_ NB564_591.out _; (with_reducible repeat (first | refine blk_drewN ?_ _ | refine blk_drew ?_ | refine blk_alloc ?_ _)); exact BK564.out⟩
     have n15_ : Aside0 ((((w78.setCell ⟨gb591, 0, none⟩ (.int .i64 t583)).setCell ⟨gb591, 1, none⟩ (.slice Ao85 t584.length co85)).setCell ⟨gb591, 2, none⟩ (.slice Ao86 t587.length co86)).heap[gb573]? = some (.cells #[.int .i64 t565, .slice Ao65 t566.length co65, .slice Ao66 t569.length co66] 30 (0, 0))) := ⟨by (with_reducible repeat (first | refine blk_drewN ?_ _ | refine blk_drew ?_ | refine blk_alloc ?_ _)); refine blk_far ?_ NB573_591.out _; (with_reducible repeat (first | refine blk_drewN ?_ _ | refine blk_drew ?_ | refine blk_alloc ?_ _)); refine blk_far ?_ NB573_591.out _; (with_reducible repeat (first | refine blk_drewN ?_ _ | refine blk_drew ?_ | refine blk_alloc ?_ _)); refine blk_far ?_ NB573_591.out _; (with_reducible repeat (first | refine blk_drewN ?_ _ | refine blk_drew ?_ | refine blk_alloc ?_ _)); exact BK573.out⟩
     have n16_ : Aside0 ((((w78.setCell ⟨gb591, 0, none⟩ (.int .i64 t583)).setCell ⟨gb591, 1, none⟩ (.slice Ao85 t584.length co85)).setCell ⟨gb591, 2, none⟩ (.slice Ao86 t587.length co86)).heap[gb582]? = some (.cells #[.int .i64 t574, .slice Ao74 t575.length co74, .slice Ao75 t578.length co75] 30 (0, 0))) := ⟨by (with_reducible repeat (first | refine blk_drewN ?_ _ | refine blk_drew ?_ | refine blk_alloc ?_ _)); refine blk_far ?_ NB582_591.out _; (with_reducible repeat (first | refine blk_drewN ?_ _ | refine blk_drew ?_ | refine blk_alloc ?_ _)); refine blk_far ?_ NB582_591.out _; (with_reducible repeat (first | refine blk_drewN ?_ _ | refine blk_drew ?_ | refine blk_alloc ?_ _)); refine blk_far ?_ NB582_591.out _; (with_reducible repeat (first | refine blk_drewN ?_ _ | refine blk_drew ?_ | refine blk_alloc ?_ _)); exact BK582.out⟩
     have n17_ : Aside0 ((((w78.setCell ⟨gb591, 0, none⟩ (.int .i64 t583)).setCell ⟨gb591, 1, none⟩ (.slice Ao85 t584.length co85)).setCell ⟨gb591, 2, none⟩ (.slice Ao86 t587.length co86)).heap[gb591]? = some (.cells #[.int .i64 t583, .slice Ao85 t584.length co85, .slice Ao86 t587.length co86] 30 (0, 0))) := ⟨by (with_reducible repeat (first | refine blk_drewN ?_ _ | refine blk_drew ?_ | refine blk_alloc ?_ _)); refine blk_put (cs := #[.int .i64 t583, .slice Ao85 t584.length co85, .slice none 0 0]) ?_ 2 _ rfl; (with_reducible repeat (first | refine blk_drewN ?_ _ | refine blk_drew ?_ | refine blk_alloc ?_ _)); refine blk_put (cs := #[.int .i64 t583, .slice none 0 0, .slice none 0 0]) ?_ 1 _ rfl; (with_reducible repeat (first | refine blk_drewN ?_ _ | refine blk_drew ?_ | refine blk_alloc ?_ _)); refine blk_put (cs := #[.int .i64 0, .slice none 0 0, .slice none 0 0]) ?_ 0 _ rfl; (with_reducible repeat (first | refine blk_drewN ?_ _ | refine blk_drew ?_ | refine blk_alloc ?_ _)); exact BK591.out⟩
     have n18_ : Aside0 (Below w.heap.size w (((w78.setCell ⟨gb591, 0, none⟩ (.int .i64 t583)).setCell ⟨gb591, 1, none⟩ (.slice Ao85 t584.length co85)).setCell ⟨gb591, 2, none⟩ (.slice Ao86 t587.length co86))) := ⟨B6_ HB.out GE542.out GE563.out GE564.out GE573.out GE582.out GE591.out⟩
     (try clear HO_543001)
     (try clear HO_543002)
     (try clear HO552)
     (try clear HO555)
     (try clear HO559)
     (try clear HO562)
     (try clear HO568)
     (try clear HO571)
     (try clear HO577)
     (try clear HO580)
     (try clear HO586)
     (try clear HO589)
     (try clear BK542)
     (try clear BK563)
     (try clear BK564)
     (try clear BK573)
     (try clear BK582)
     (try clear BK591)
     (try clear HB)
     generalize (((w78.setCell ⟨gb591, 0, none⟩ (.int .i64 t583)).setCell ⟨gb591, 1, none⟩ (.slice Ao85 t584.length co85)).setCell ⟨gb591, 2, none⟩ (.slice Ao86 t587.length co86)) = w87 at n0_ n1_ n2_ n3_ n4_ n5_ n6_ n7_ n8_ n9_ n10_ n11_ n12_ n13_ n14_ n15_ n16_ n17_ n18_ ⊢
     have HO_543001 := n0_
     have HO_543002 := n1_
     have HO552 := n2_
     have HO555 := n3_
     have HO559 := n4_
     have HO562 := n5_
     have HO568 := n6_
     have HO571 := n7_
     have HO577 := n8_
     have HO580 := n9_
     have HO586 := n10_
     have HO589 := n11_
     have BK542 := n12_
     have BK563 := n13_
     have BK564 := n14_
     have BK573 := n15_
     have BK582 := n16_
     have BK591 := n17_
     have HB := n18_
     clear n0_ n1_ n2_ n3_ n4_ n5_ n6_ n7_ n8_ n9_ n10_ n11_ n12_ n13_ n14_ n15_ n16_ n17_ n18_
     replace HO_543001 := Aside0.mk (Kd.R_drew HO_543001.out)
     replace HO_543002 := Aside0.mk (Kd.N_drew HO_543002.out)
     replace HO552 := Aside0.mk (Kd.R_drew HO552.out)
     replace HO555 := Aside0.mk (Kd.N_drew HO555.out)
     replace HO559 := Aside0.mk (Kd.R_drew HO559.out)
     replace HO562 := Aside0.mk (Kd.N_drew HO562.out)
     replace HO568 := Aside0.mk (Kd.R_drew HO568.out)
     replace HO571 := Aside0.mk (Kd.N_drew HO571.out)
     replace HO577 := Aside0.mk (Kd.R_drew HO577.out)
     replace HO580 := Aside0.mk (Kd.N_drew HO580.out)
     replace HO586 := Aside0.mk (Kd.R_drew HO586.out)
     replace HO589 := Aside0.mk (Kd.N_drew HO589.out)
     replace BK542 := Aside0.mk (blk_drew BK542.out)
     replace BK563 := Aside0.mk (blk_drew BK563.out)
     replace BK564 := Aside0.mk (blk_drew BK564.out)
     replace BK573 := Aside0.mk (blk_drew BK573.out)
     replace BK582 := Aside0.mk (blk_drew BK582.out)
     replace BK591 := Aside0.mk (blk_drew BK591.out)
     replace HB := Aside0.mk (below_drew1 HB.out)
     refine start_ (n := 45) (S := fun w' => w'.cell? ⟨gb542, 0, none⟩ = some (.int .i64 t535) ∧ w'.cell? ⟨gb542, 1, none⟩ = some (.slice Ao9 t536.length co9) ∧ w'.cell? ⟨gb542, 2, none⟩ = some (.slice Ao10 t539.length co10) ∧ w'.cell? ⟨gb563, 0, none⟩ = some (.int .i64 t549) ∧ w'.cell? ⟨gb563, 1, none⟩ = some (.slice Ao53 t550.length co53) ∧ w'.cell? ⟨gb563, 2, none⟩ = some (.slice Ao54 t553.length co54) ∧ w'.cell? ⟨gb564, 0, none⟩ = some (.int .i64 t556) ∧ w'.cell? ⟨gb564, 1, none⟩ = some (.slice Ao57 t557.length co57) ∧ w'.cell? ⟨gb564, 2, none⟩ = some (.slice Ao58 t560.length co58) ∧ w'.cell? ⟨gb582, 0, none⟩ = some (.int .i64 t574) ∧ w'.cell? ⟨gb582, 1, none⟩ = some (.slice Ao74 t575.length co74) ∧ w'.cell? ⟨gb582, 2, none⟩ = some (.slice Ao75 t578.length co75) ∧ w'.cell? ⟨gb591, 0, none⟩ = some (.int .i64 t583) ∧ w'.cell? ⟨gb591, 1, none⟩ = some (.slice Ao85 t584.length co85) ∧ w'.cell? ⟨gb591, 2, none⟩ = some (.slice Ao86 t587.length co86)) (ds := []) #[false, false, false, false, false, false, false, false, false, false, false, false, false, false, false, false, false, false, false, false, false, false, false, false, false, false, false, false, false, false, false, false, false, false, false, false, false, false, false, false, false, false, false, false, false] (by kernel_rfl) rfl rfl ⟨(blk_cell BK542.out 0).trans rfl, (blk_cell BK542.out 1).trans rfl, (blk_cell BK542.out 2).trans rfl, (blk_cell BK563.out 0).trans rfl, (blk_cell BK563.out 1).trans rfl, (blk_cell BK563.out 2).trans rfl, (blk_cell BK564.out 0).trans rfl, (blk_cell BK564.out 1).trans rfl, (blk_cell BK564.out 2).trans rfl, (blk_cell BK582.out 0).trans rfl, (blk_cell BK582.out 1).trans rfl, (blk_cell BK582.out 2).trans rfl, (blk_cell BK591.out 0).trans rfl, (blk_cell BK591.out 1).trans rfl, (blk_cell BK591.out 2).trans rfl⟩ (fun hHeld => ?_); refine with_tabW laws_FnTypes.tab16 laws_FnTypes.bits16 (fun HT_ HW_ => ?_)
     generalize w87.drew = w88 at HO_543001 HO_543002 HO552 HO555 HO559 HO562 HO568 HO571 HO577 HO580 HO586 HO589 BK542 BK563 BK564 BK573 BK582 BK591 HB hHeld ⊢
     refine pu_ HT_ (i := 2) (N := some 72) (mk_ 45 4) rfl rfl ?_
     refine tk_ HT_ HW_ hHeld (i := 0) (N := some 70) (mk_ 45 5) rfl rfl ?_
     refine on_ HT_ (i := 1) (N := some 71) (mk_ 45 7) rfl rfl (fun K hK => ?_)
     refine goes_ Try.func16 (by kernel_rfl) rfl #[.agg #[.int .i64 t535, .slice Ao9 t536.length co9, .slice Ao10 t539.length co10]] (by rfl) rfl rfl ma_ ?_
     with_reducible refine (impl_SizeOfType.calls k1 t535 _ _ t536 _ _ t539 t592 _ ?side1 ?side2 ?side3 ?side4 A31.out).mono ?_
     (case side1 => exact crb_ HO_543001)
     (case side2 => exact lrb_ HO_543001)
     (case side3 => exact cnb_ HO_543002)
     (case side4 => exact lnb_ HO_543002)
     rintro e w89 ⟨rfl, hb⟩
     refine ⟨_, rfl, ?_⟩
     replace HO_543001 := rb_ HO_543001 hb
     replace HO_543002 := nb_ HO_543002 hb
     replace HO552 := rb_ HO552 hb
     replace HO555 := nb_ HO555 hb
     replace HO559 := rb_ HO559 hb
     replace HO562 := nb_ HO562 hb
     replace HO568 := rb_ HO568 hb
     replace HO571 := nb_ HO571 hb
     replace HO577 := rb_ HO577 hb
     replace HO580 := nb_ HO580 hb
     replace HO586 := rb_ HO586 hb
     replace HO589 := nb_ HO589 hb
     replace BK542 := kb_ BK542 hb
     replace BK563 := kb_ BK563 hb
     replace BK564 := kb_ BK564 hb
     replace BK573 := kb_ BK573 hb
     replace BK582 := kb_ BK582 hb
     replace BK591 := kb_ BK591 hb
     replace HB := Aside0.mk (below_step (B6_ HB.out GE542.out GE563.out GE564.out GE573.out GE582.out GE591.out) hb)
     (try clear hb)
     (try clear hb2)
     (try clear hk)
     (try clear hi)
     refine hK.out _ _ ⟨(blk_cell BK542.out 0).trans rfl, (blk_cell BK542.out 1).trans rfl, (blk_cell BK542.out 2).trans rfl, (blk_cell BK563.out 0).trans rfl, (blk_cell BK563.out 1).trans rfl, (blk_cell BK563.out 2).trans rfl, (blk_cell BK564.out 0).trans rfl, (blk_cell BK564.out 1).trans rfl, (blk_cell BK564.out 2).trans rfl, (blk_cell BK582.out 0).trans rfl, (blk_cell BK582.out 1).trans rfl, (blk_cell BK582.out 2).trans rfl, (blk_cell BK591.out 0).trans rfl, (blk_cell BK591.out 1).trans rfl, (blk_cell BK591.out 2).trans rfl⟩ (fun hHeld => ?_)
     clear hK K
     refine nm_ (some 71) ?_
     have H := HX1.out
     clear HX1
     by_cases c32 : t592 = x4_1
     ·rw [if_pos c32] at H
      have c32b0 : (t592 == x4_1) = true := beq_iff_eq.mpr c32
      have c32b1 : (t592 != x4_1) = false := bne_eq_false_iff_eq.mpr c32
      clear c32
      replace H := Option.bind_eq_some_iff.mp H
      obtain ⟨t593, A330, H⟩ := H
      replace H : (if t593 = (wrap64 (x5_1 + 1)) then ((impl_IsValidType.f k1 t535 t536 t539).bind fun t594 => ((spec_IsValidType.f k1 t535 t536 t539).bind fun t595 => (if (t594 == t595) = true then ((impl_EqualType.f k1 t549 t550 t553 t556 t557 t560).bind fun t596 => ((spec_EqualType.f k1 t549 t550 t553 t556 t557 t560).bind fun t597 => (if (t596 == t597) = true then (if (t581 == t590) = true then ((impl_EqualType.f k1 t574 t575 t578 t583 t584 t587).bind fun t598 => (if t598 = true then ((impl_IsUniform.f k1 t535 t536 t539).bind fun t599 => ((spec_IsUniform.f k1 t535 t536 t539).bind fun t600 => (some (t599 == t600)))) else (some false))) else (some false)) else (some false)))) else (some false)))) else (some false)) = some r := H
      have A33 := Aside0.mk A330
      clear A330
      have HX2 := Aside0.mk H
      clear H
      refine pu_ HT_ (i := 3) (N := some 73) (mk_ 45 15) rfl rfl ?_
      refine pu_ HT_ (i := 4) (N := some 74) (mk_ 45 31) rfl rfl ?_
      refine pu_ HT_ (i := 7) (N := some 77) (mk_ 45 159) rfl rfl ?_
      refine pu_ HT_ (i := 8) (N := some 78) (mk_ 45 415) rfl rfl ?_
      refine tk_ HT_ HW_ hHeld (i := 5) (N := some 75) (mk_ 45 447) rfl rfl ?_
      refine on_ HT_ (i := 6) (N := some 76) (mk_ 45 511) rfl rfl (fun K hK => ?_)
      refine goes_ Try.func19 (by kernel_rfl) rfl #[.agg #[.int .i64 t535, .slice Ao9 t536.length co9, .slice Ao10 t539.length co10]] (by rfl) rfl rfl ma_ ?_
      with_reducible refine (impl_DepthOfType.calls k1 t535 _ _ t536 _ _ t539 t593 _ ?side1 ?side2 ?side3 ?side4 A33.out).mono ?_
      (case side1 => exact crb_ HO_543001)
      (case side2 => exact lrb_ HO_543001)
      (case side3 => exact cnb_ HO_543002)
      (case side4 => exact lnb_ HO_543002)
      rintro e w90 ⟨rfl, hb⟩
      refine ⟨_, rfl, ?_⟩
      replace HO_543001 := rb_ HO_543001 hb
      replace HO_543002 := nb_ HO_543002 hb
      replace HO552 := rb_ HO552 hb
      replace HO555 := nb_ HO555 hb
      replace HO559 := rb_ HO559 hb
      replace HO562 := nb_ HO562 hb
      replace HO568 := rb_ HO568 hb
      replace HO571 := nb_ HO571 hb
      replace HO577 := rb_ HO577 hb
      replace HO580 := nb_ HO580 hb
      replace HO586 := rb_ HO586 hb
      replace HO589 := nb_ HO589 hb
      replace BK542 := kb_ BK542 hb
      replace BK563 := kb_ BK563 hb
      replace BK564 := kb_ BK564 hb
      replace BK573 := kb_ BK573 hb
      replace BK582 := kb_ BK582 hb
      replace BK591 := kb_ BK591 hb
      replace HB := Aside0.mk (below_step (B6_ HB.out GE542.out GE563.out GE564.out GE573.out GE582.out GE591.out) hb)
      (try clear hb)
      (try clear hb2)
      (try clear hk)
      (try clear hi)
      refine hK.out _ _ ⟨(blk_cell BK542.out 0).trans rfl, (blk_cell BK542.out 1).trans rfl, (blk_cell BK542.out 2).trans rfl, (blk_cell BK563.out 0).trans rfl, (blk_cell BK563.out 1).trans rfl, (blk_cell BK563.out 2).trans rfl, (blk_cell BK564.out 0).trans rfl, (blk_cell BK564.out 1).trans rfl, (blk_cell BK564.out 2).trans rfl, (blk_cell BK582.out 0).trans rfl, (blk_cell BK582.out 1).trans rfl, (blk_cell BK582.out 2).trans rfl, (blk_cell BK591.out 0).trans rfl, (blk_cell BK591.out 1).trans rfl, (blk_cell BK591.out 2).trans rfl⟩ (fun hHeld => ?_)
      clear hK K
      refine nm_ (some 76) ?_
      have H := HX2.out
      clear HX2
      by_cases c34 : t593 = (wrap64 (x5_1 + 1))
      ·rw [if_pos c34] at H
       have c34b0 : (t593 == (wrap64 (x5_1 + 1))) = true := beq_iff_eq.mpr c34
       have c34b1 : (t593 != (wrap64 (x5_1 + 1))) = false := bne_eq_false_iff_eq.mpr c34
       clear c34
       replace H := Option.bind_eq_some_iff.mp H
       obtain ⟨t594, A350, H⟩ := H
       replace H : ((spec_IsValidType.f k1 t535 t536 t539).bind fun t595 => (if (t594 == t595) = true then ((impl_EqualType.f k1 t549 t550 t553 t556 t557 t560).bind fun t596 => ((spec_EqualType.f k1 t549 t550 t553 t556 t557 t560).bind fun t597 => (if (t596 == t597) = true then (if (t581 == t590) = true then ((impl_EqualType.f k1 t574 t575 t578 t583 t584 t587).bind fun t598 => (if t598 = true then ((impl_IsUniform.f k1 t535 t536 t539).bind fun t599 => ((spec_IsUniform.f k1 t535 t536 t539).bind fun t600 => (some (t599 == t600)))) else (some false))) else (some false)) else (some false)))) else (some false))) = some r := H
       have A35 := Aside0.mk A350
       clear A350
       replace H := Option.bind_eq_some_iff.mp H
       obtain ⟨t595, A360, H⟩ := H
       replace H : (if (t594 == t595) = true then ((impl_EqualType.f k1 t549 t550 t553 t556 t557 t560).bind fun t596 => ((spec_EqualType.f k1 t549 t550 t553 t556 t557 t560).bind fun t597 => (if (t596 == t597) = true then (if (t581 == t590) = true then ((impl_EqualType.f k1 t574 t575 t578 t583 t584 t587).bind fun t598 => (if t598 = true then ((impl_IsUniform.f k1 t535 t536 t539).bind fun t599 => ((spec_IsUniform.f k1 t535 t536 t539).bind fun t600 => (some (t599 == t600)))) else (some false))) else (some false)) else (some false)))) else (some false)) = some r := H
       have A36 := Aside0.mk A360
       clear A360
       have HX3 := Aside0.mk H
       clear H
       refine pu_ HT_ (i := 9) (N := some 79) (mk_ 45 1023) rfl rfl ?_
       refine pu_ HT_ (i := 10) (N := some 80) (mk_ 45 2047) rfl rfl ?_
       refine pu_ HT_ (i := 11) (N := some 81) (mk_ 45 4095) rfl rfl ?_
       refine tk_ HT_ HW_ hHeld (i := 12) (N := some 82) (mk_ 45 8191) rfl rfl ?_
       refine tk_ HT_ HW_ hHeld (i := 14) (N := some 84) (mk_ 45 24575) rfl rfl ?_
       refine on_ HT_ (i := 13) (N := some 83) (mk_ 45 32767) rfl rfl (fun K hK => ?_)
       refine goes_ Try.func23 (by kernel_rfl) rfl #[.agg #[.int .i64 t535, .slice Ao9 t536.length co9, .slice Ao10 t539.length co10]] (by rfl) rfl rfl ma_ ?_
       with_reducible refine (impl_IsValidType.calls k1 t535 _ _ t536 _ _ t539 t594 _ ?side1 ?side2 ?side3 ?side4 A35.out).mono ?_
       (case side1 => exact crb_ HO_543001)
       (case side2 => exact lrb_ HO_543001)
       (case side3 => exact cnb_ HO_543002)
       (case side4 => exact lnb_ HO_543002)
       rintro e w91 ⟨rfl, hb⟩
       refine ⟨_, rfl, ?_⟩
       replace HO_543001 := rb_ HO_543001 hb
       replace HO_543002 := nb_ HO_543002 hb
       replace HO552 := rb_ HO552 hb
       replace HO555 := nb_ HO555 hb
       replace HO559 := rb_ HO559 hb
       replace HO562 := nb_ HO562 hb
       replace HO568 := rb_ HO568 hb
       replace HO571 := nb_ HO571 hb
       replace HO577 := rb_ HO577 hb
       replace HO580 := nb_ HO580 hb
       replace HO586 := rb_ HO586 hb
       replace HO589 := nb_ HO589 hb
       replace BK542 := kb_ BK542 hb
       replace BK563 := kb_ BK563 hb
       replace BK564 := kb_ BK564 hb
       replace BK573 := kb_ BK573 hb
       replace BK582 := kb_ BK582 hb
       replace BK591 := kb_ BK591 hb
       replace HB := Aside0.mk (below_step (B6_ HB.out GE542.out GE563.out GE564.out GE573.out GE582.out GE591.out) hb)
       (try clear hb)
       (try clear hb2)
       (try clear hk)
       (try clear hi)
       refine hK.out _ _ ⟨(blk_cell BK542.out 0).trans rfl, (blk_cell BK542.out 1).trans rfl, (blk_cell BK542.out 2).trans rfl, (blk_cell BK563.out 0).trans rfl, (blk_cell BK563.out 1).trans rfl, (blk_cell BK563.out 2).trans rfl, (blk_cell BK564.out 0).trans rfl, (blk_cell BK564.out 1).trans rfl, (blk_cell BK564.out 2).trans rfl, (blk_cell BK582.out 0).trans rfl, (blk_cell BK582.out 1).trans rfl, (blk_cell BK582.out 2).trans rfl, (blk_cell BK591.out 0).trans rfl, (blk_cell BK591.out 1).trans rfl, (blk_cell BK591.out 2).trans rfl⟩ (fun hHeld => ?_)
       clear hK K
       refine nm_ (some 83) ?_
       refine on_ HT_ (i := 15) (N := some 85) (mk_ 45 65535) rfl rfl (fun K hK => ?_)
       refine goes_ Try.func22 (by kernel_rfl) rfl #[.agg #[.int .i64 t535, .slice Ao9 t536.length co9, .slice Ao10 t539.length co10]] (by rfl) rfl rfl ma_ ?_
       with_reducible refine (spec_IsValidType.calls k1 t535 _ _ t536 _ _ t539 t595 _ ?side1 ?side2 ?side3 ?side4 A36.out).mono ?_
       (case side1 => exact crb_ HO_543001)
       (case side2 => exact lrb_ HO_543001)
       (case side3 => exact cnb_ HO_543002)
       (case side4 => exact lnb_ HO_543002)
       rintro e w92 ⟨rfl, hb⟩
       refine ⟨_, rfl, ?_⟩
       replace HO_543001 := rb_ HO_543001 hb
       replace HO_543002 := nb_ HO_543002 hb
       replace HO552 := rb_ HO552 hb
       replace HO555 := nb_ HO555 hb
       replace HO559 := rb_ HO559 hb
       replace HO562 := nb_ HO562 hb
       replace HO568 := rb_ HO568 hb
       replace HO571 := nb_ HO571 hb
       replace HO577 := rb_ HO577 hb
       replace HO580 := nb_ HO580 hb
       replace HO586 := rb_ HO586 hb
       replace HO589 := nb_ HO589 hb
       replace BK542 := kb_ BK542 hb
       replace BK563 := kb_ BK563 hb
       replace BK564 := kb_ BK564 hb
       replace BK573 := kb_ BK573 hb
       replace BK582 := kb_ BK582 hb
       replace BK591 := kb_ BK591 hb
       replace HB := Aside0.mk (below_step (B6_ HB.out GE542.out GE563.out GE564.out GE573.out GE582.out GE591.out) hb)
       (try clear hb)
       (try clear hb2)
       (try clear hk)
       (try clear hi)
       refine hK.out _ _ ⟨(blk_cell BK542.out 0).trans rfl, (blk_cell BK542.out 1).trans rfl, (blk_cell BK542.out 2).trans rfl, (blk_cell BK563.out 0).trans rfl, (blk_cell BK563.out 1).trans rfl, (blk_cell BK563.out 2).trans rfl, (blk_cell BK564.out 0).trans rfl, (blk_cell BK564.out 1).trans rfl, (blk_cell BK564.out 2).trans rfl, (blk_cell BK582.out 0).trans rfl, (blk_cell BK582.out 1).trans rfl, (blk_cell BK582.out 2).trans rfl, (blk_cell BK591.out 0).trans rfl, (blk_cell BK591.out 1).trans rfl, (blk_cell BK591.out 2).trans rfl⟩ (fun hHeld => ?_)
       clear hK K
       refine nm_ (some 85) ?_
       have H := HX3.out
       clear HX3
       by_cases c37 : (t594 == t595) = true
       ·rw [if_pos c37] at H
        have c37b0 : (t594 == t595) = true := c37
        (try (have c37b1 : decide (t594 = t595) = true := by simpa using c37))
        (try (have c37b2 : (t594 == t595) = true := by simpa using c37))
        clear c37
        replace H := Option.bind_eq_some_iff.mp H
        obtain ⟨t596, A380, H⟩ := H
        replace H : ((spec_EqualType.f k1 t549 t550 t553 t556 t557 t560).bind fun t597 => (if (t596 == t597) = true then (if (t581 == t590) = true then ((impl_EqualType.f k1 t574 t575 t578 t583 t584 t587).bind fun t598 => (if t598 = true then ((impl_IsUniform.f k1 t535 t536 t539).bind fun t599 => ((spec_IsUniform.f k1 t535 t536 t539).bind fun t600 => (some (t599 == t600)))) else (some false))) else (some false)) else (some false))) = some r := H
        have A38 := Aside0.mk A380
        clear A380
        replace H := Option.bind_eq_some_iff.mp H
        obtain ⟨t597, A390, H⟩ := H
        replace H : (if (t596 == t597) = true then (if (t581 == t590) = true then ((impl_EqualType.f k1 t574 t575 t578 t583 t584 t587).bind fun t598 => (if t598 = true then ((impl_IsUniform.f k1 t535 t536 t539).bind fun t599 => ((spec_IsUniform.f k1 t535 t536 t539).bind fun t600 => (some (t599 == t600)))) else (some false))) else (some false)) else (some false)) = some r := H
        have A39 := Aside0.mk A390
        clear A390
        have HX4 := Aside0.mk H
        clear H
        refine pu_ HT_ (i := 16) (N := some 86) (mk_ 45 131071) rfl rfl ?_
        refine pu_ HT_ (i := 17) (N := some 87) (mk_ 45 262143) rfl rfl ?_
        refine pu_ HT_ (i := 18) (N := some 88) (mk_ 45 524287) rfl rfl ?_
        refine tk_ HT_ HW_ hHeld (i := 19) (N := some 89) (mk_ 45 1048575) rfl rfl ?_
        refine tk_ HT_ HW_ hHeld (i := 20) (N := some 90) (mk_ 45 2097151) rfl rfl ?_
        refine tk_ HT_ HW_ hHeld (i := 22) (N := some 92) (mk_ 45 6291455) rfl rfl ?_
        refine tk_ HT_ HW_ hHeld (i := 23) (N := some 93) (mk_ 45 14680063) rfl rfl ?_
        refine on_ HT_ (i := 21) (N := some 91) (mk_ 45 16777215) rfl rfl (fun K hK => ?_)
        refine goes_ Try.func21 (by kernel_rfl) rfl #[.agg #[.int .i64 t549, .slice Ao53 t550.length co53, .slice Ao54 t553.length co54], .agg #[.int .i64 t556, .slice Ao57 t557.length co57, .slice Ao58 t560.length co58]] (by rfl) rfl rfl ma_ ?_
        with_reducible refine (impl_EqualType.calls k1 t549 _ _ t550 _ _ t553 t556 _ _ t557 _ _ t560 t596 _ ?side1 ?side2 ?side3 ?side4 ?side5 ?side6 ?side7 ?side8 A38.out).mono ?_
        (case side1 => exact crb_ HO552)
        (case side2 => exact lrb_ HO552)
        (case side3 => exact cnb_ HO555)
        (case side4 => exact lnb_ HO555)
        (case side5 => exact crb_ HO559)
        (case side6 => exact lrb_ HO559)
        (case side7 => exact cnb_ HO562)
        (case side8 => exact lnb_ HO562)
        rintro e w93 ⟨rfl, hb⟩
        refine ⟨_, rfl, ?_⟩
        replace HO_543001 := rb_ HO_543001 hb
        replace HO_543002 := nb_ HO_543002 hb
        replace HO552 := rb_ HO552 hb
        replace HO555 := nb_ HO555 hb
        replace HO559 := rb_ HO559 hb
        replace HO562 := nb_ HO562 hb
        replace HO568 := rb_ HO568 hb
        replace HO571 := nb_ HO571 hb
        replace HO577 := rb_ HO577 hb
        replace HO580 := nb_ HO580 hb
        replace HO586 := rb_ HO586 hb
        replace HO589 := nb_ HO589 hb
        replace BK542 := kb_ BK542 hb
        replace BK563 := kb_ BK563 hb
        replace BK564 := kb_ BK564 hb
        replace BK573 := kb_ BK573 hb
        replace BK582 := kb_ BK582 hb
        replace BK591 := kb_ BK591 hb
        replace HB := Aside0.mk (below_step (B6_ HB.out GE542.out GE563.out GE564.out GE573.out GE582.out GE591.out) hb)
        (try clear hb)
        (try clear hb2)
        (try clear hk)
        (try clear hi)
        refine hK.out _ _ ⟨(blk_cell BK542.out 0).trans rfl, (blk_cell BK542.out 1).trans rfl, (blk_cell BK542.out 2).trans rfl, (blk_cell BK563.out 0).trans rfl, (blk_cell BK563.out 1).trans rfl, (blk_cell BK563.out 2).trans rfl, (blk_cell BK564.out 0).trans rfl, (blk_cell BK564.out 1).trans rfl, (blk_cell BK564.out 2).trans rfl, (blk_cell BK582.out 0).trans rfl, (blk_cell BK582.out 1).trans rfl, (blk_cell BK582.out 2).trans rfl, (blk_cell BK591.out 0).trans rfl, (blk_cell BK591.out 1).trans rfl, (blk_cell BK591.out 2).trans rfl⟩ (fun hHeld => ?_)
        clear hK K
        refine nm_ (some 91) ?_
        refine on_ HT_ (i := 24) (N := some 94) (mk_ 45 33554431) rfl rfl (fun K hK => ?_)
        refine goes_ Try.func20 (by kernel_rfl) rfl #[.agg #[.int .i64 t549, .slice Ao53 t550.length co53, .slice Ao54 t553.length co54], .agg #[.int .i64 t556, .slice Ao57 t557.length co57, .slice Ao58 t560.length co58]] (by rfl) rfl rfl ma_ ?_
        with_reducible refine (spec_EqualType.calls k1 t549 _ _ t550 _ _ t553 t556 _ _ t557 _ _ t560 t597 _ ?side1 ?side2 ?side3 ?side4 ?side5 ?side6 ?side7 ?side8 A39.out).mono ?_
        (case side1 => exact crb_ HO552)
        (case side2 => exact lrb_ HO552)
        (case side3 => exact cnb_ HO555)
        (case side4 => exact lnb_ HO555)
        (case side5 => exact crb_ HO559)
        (case side6 => exact lrb_ HO559)
        (case side7 => exact cnb_ HO562)
        (case side8 => exact lnb_ HO562)
        rintro e w94 ⟨rfl, hb⟩
        refine ⟨_, rfl, ?_⟩
        replace HO_543001 := rb_ HO_543001 hb
        replace HO_543002 := nb_ HO_543002 hb
        replace HO552 := rb_ HO552 hb
        replace HO555 := nb_ HO555 hb
        replace HO559 := rb_ HO559 hb
        replace HO562 := nb_ HO562 hb
        replace HO568 := rb_ HO568 hb
        replace HO571 := nb_ HO571 hb
        replace HO577 := rb_ HO577 hb
        replace HO580 := nb_ HO580 hb
        replace HO586 := rb_ HO586 hb
        replace HO589 := nb_ HO589 hb
        replace BK542 := kb_ BK542 hb
        replace BK563 := kb_ BK563 hb
        replace BK564 := kb_ BK564 hb
        replace BK573 := kb_ BK573 hb
        replace BK582 := kb_ BK582 hb
        replace BK591 := kb_ BK591 hb
        replace HB := Aside0.mk (below_step (B6_ HB.out GE542.out GE563.out GE564.out GE573.out GE582.out GE591.out) hb)
        (try clear hb)
        (try clear hb2)
        (try clear hk)
        (try clear hi)
        refine hK.out _ _ ⟨(blk_cell BK542.out 0).trans rfl, (blk_cell BK542.out 1).trans rfl, (blk_cell BK542.out 2).trans rfl, (blk_cell BK563.out 0).trans rfl, (blk_cell BK563.out 1).trans rfl, (blk_cell BK563.out 2).trans rfl, (blk_cell BK564.out 0).trans rfl, (blk_cell BK564.out 1).trans rfl, (blk_cell BK564.out 2).trans rfl, (blk_cell BK582.out 0).trans rfl, (blk_cell BK582.out 1).trans rfl, (blk_cell BK582.out 2).trans rfl, (blk_cell BK591.out 0).trans rfl, (blk_cell BK591.out 1).trans rfl, (blk_cell BK591.out 2).trans rfl⟩ (fun hHeld => ?_)
        clear hK K
        refine nm_ (some 94) ?_
        have H := HX4.out
        clear HX4
        by_cases c40 : (t596 == t597) = true
        ·rw [if_pos c40] at H
         have c40b0 : (t596 == t597) = true := c40
         (try (have c40b1 : decide (t596 = t597) = true := by simpa using c40))
         (try (have c40b2 : (t596 == t597) = true := by simpa using c40))
         clear c40
         by_cases c41 : (t581 == t590) = true
         ·rw [if_pos c41] at H
          have c41b0 : (t581 == t590) = true := c41
          (try (have c41b1 : decide (t581 = t590) = true := by simpa using c41))
          (try (have c41b2 : (t581 == t590) = true := by simpa using c41))
          clear c41
          replace H := Option.bind_eq_some_iff.mp H
          obtain ⟨t598, A420, H⟩ := H
          replace H : (if t598 = true then ((impl_IsUniform.f k1 t535 t536 t539).bind fun t599 => ((spec_IsUniform.f k1 t535 t536 t539).bind fun t600 => (some (t599 == t600)))) else (some false)) = some r := H
          have A42 := Aside0.mk A420
          clear A420
          have HX5 := Aside0.mk H
          clear H
          refine pu_ HT_ (i := 25) (N := some 95) (mk_ 45 67108863) rfl rfl ?_
          refine pu_ HT_ (i := 26) (N := some 96) (mk_ 45 134217727) rfl rfl ?_
          refine pu_ HT_ (i := 27) (N := some 97) (mk_ 45 268435455) rfl rfl ?_
          refine pu_ HT_ (i := 28) (N := some 98) (mk_ 45 536870911) rfl rfl ?_
          refine pu_ HT_ (i := 29) (N := some 99) (mk_ 45 1073741823) rfl rfl ?_
          refine pu_ HT_ (i := 30) (N := some 100) (mk_ 45 2147483647) rfl rfl ?_
          refine pu_ HT_ (i := 31) (N := some 101) (mk_ 45 4294967295) rfl rfl ?_
          refine pu_ HT_ (i := 32) (N := some 102) (mk_ 45 8589934591) rfl rfl ?_
          refine tk_ HT_ HW_ hHeld (i := 33) (N := some 103) (mk_ 45 17179869183) rfl rfl ?_
          refine tk_ HT_ HW_ hHeld (i := 34) (N := some 104) (mk_ 45 34359738367) rfl rfl ?_
          refine on_ HT_ (i := 35) (N := some 105) (mk_ 45 68719476735) rfl rfl (fun K hK => ?_)
          refine goes_ Try.func21 (by kernel_rfl) rfl #[.agg #[.int .i64 t574, .slice Ao74 t575.length co74, .slice Ao75 t578.length co75], .agg #[.int .i64 t583, .slice Ao85 t584.length co85, .slice Ao86 t587.length co86]] (by rfl) rfl rfl ma_ ?_
          with_reducible refine (impl_EqualType.calls k1 t574 _ _ t575 _ _ t578 t583 _ _ t584 _ _ t587 t598 _ ?side1 ?side2 ?side3 ?side4 ?side5 ?side6 ?side7 ?side8 A42.out).mono ?_
          (case side1 => exact crb_ HO577)
          (case side2 => exact lrb_ HO577)
          (case side3 => exact cnb_ HO580)
          (case side4 => exact lnb_ HO580)
          (case side5 => exact crb_ HO586)
          (case side6 => exact lrb_ HO586)
          (case side7 => exact cnb_ HO589)
          (case side8 => exact lnb_ HO589)
          rintro e w95 ⟨rfl, hb⟩
          refine ⟨_, rfl, ?_⟩
          replace HO_543001 := rb_ HO_543001 hb
          replace HO_543002 := nb_ HO_543002 hb
          replace HO552 := rb_ HO552 hb
          replace HO555 := nb_ HO555 hb
          replace HO559 := rb_ HO559 hb
          replace HO562 := nb_ HO562 hb
          replace HO568 := rb_ HO568 hb
          replace HO571 := nb_ HO571 hb
          replace HO577 := rb_ HO577 hb
          replace HO580 := nb_ HO580 hb
          replace HO586 := rb_ HO586 hb
          replace HO589 := nb_ HO589 hb
          replace BK542 := kb_ BK542 hb
          replace BK563 := kb_ BK563 hb
          replace BK564 := kb_ BK564 hb
          replace BK573 := kb_ BK573 hb
          replace BK582 := kb_ BK582 hb
          replace BK591 := kb_ BK591 hb
          replace HB := Aside0.mk (below_step (B6_ HB.out GE542.out GE563.out GE564.out GE573.out GE582.out GE591.out) hb)
          (try clear hb)
          (try clear hb2)
          (try clear hk)
          (try clear hi)
          refine hK.out _ _ ⟨(blk_cell BK542.out 0).trans rfl, (blk_cell BK542.out 1).trans rfl, (blk_cell BK542.out 2).trans rfl, (blk_cell BK563.out 0).trans rfl, (blk_cell BK563.out 1).trans rfl, (blk_cell BK563.out 2).trans rfl, (blk_cell BK564.out 0).trans rfl, (blk_cell BK564.out 1).trans rfl, (blk_cell BK564.out 2).trans rfl, (blk_cell BK582.out 0).trans rfl, (blk_cell BK582.out 1).trans rfl, (blk_cell BK582.out 2).trans rfl, (blk_cell BK591.out 0).trans rfl, (blk_cell BK591.out 1).trans rfl, (blk_cell BK591.out 2).trans rfl⟩ (fun hHeld => ?_)
          clear hK K
          refine nm_ (some 105) ?_
          have H := HX5.out
          clear HX5
          by_cases c43 : t598 = true
          ·subst c43
           have H1 : ((impl_IsUniform.f k1 t535 t536 t539).bind fun t599 => ((spec_IsUniform.f k1 t535 t536 t539).bind fun t600 => (some (t599 == t600)))) = some r := by rw [if_pos rfl] at H; exact H
           clear H
           have H := H1
           clear H1
           replace H := Option.bind_eq_some_iff.mp H
           obtain ⟨t599, A440, H⟩ := H
           replace H : ((spec_IsUniform.f k1 t535 t536 t539).bind fun t600 => (some (t599 == t600))) = some r := H
           have A44 := Aside0.mk A440
           clear A440
           replace H := Option.bind_eq_some_iff.mp H
           obtain ⟨t600, A450, H⟩ := H
           replace H : (some (t599 == t600)) = some r := H
           have A45 := Aside0.mk A450
           clear A450
           obtain rfl := Option.some.inj H
           refine pu_ HT_ (i := 36) (N := some 106) (mk_ 45 137438953471) rfl rfl ?_
           refine pu_ HT_ (i := 37) (N := some 107) (mk_ 45 274877906943) rfl rfl ?_
           refine tk_ HT_ HW_ hHeld (i := 38) (N := some 108) (mk_ 45 549755813887) rfl rfl ?_
           refine tk_ HT_ HW_ hHeld (i := 40) (N := some 110) (mk_ 45 1649267441663) rfl rfl ?_
           refine on_ HT_ (i := 39) (N := some 109) (mk_ 45 2199023255551) rfl rfl (fun K hK => ?_)
           refine goes_ Try.func25 (by kernel_rfl) rfl #[.agg #[.int .i64 t535, .slice Ao9 t536.length co9, .slice Ao10 t539.length co10]] (by rfl) rfl rfl ma_ ?_
           with_reducible refine (impl_IsUniform.calls k1 t535 _ _ t536 _ _ t539 t599 _ ?side1 ?side2 ?side3 ?side4 A44.out).mono ?_
           (case side1 => exact crb_ HO_543001)
           (case side2 => exact lrb_ HO_543001)
           (case side3 => exact cnb_ HO_543002)
           (case side4 => exact lnb_ HO_543002)
           rintro e w96 ⟨rfl, hb⟩
           refine ⟨_, rfl, ?_⟩
           replace HO_543001 := rb_ HO_543001 hb
           replace HO_543002 := nb_ HO_543002 hb
           replace HO552 := rb_ HO552 hb
           replace HO555 := nb_ HO555 hb
           replace HO559 := rb_ HO559 hb
           replace HO562 := nb_ HO562 hb
           replace HO568 := rb_ HO568 hb
           replace HO571 := nb_ HO571 hb
           replace HO577 := rb_ HO577 hb
           replace HO580 := nb_ HO580 hb
           replace HO586 := rb_ HO586 hb
           replace HO589 := nb_ HO589 hb
           replace BK542 := kb_ BK542 hb
           replace BK563 := kb_ BK563 hb
           replace BK564 := kb_ BK564 hb
           replace BK573 := kb_ BK573 hb
           replace BK582 := kb_ BK582 hb
           replace BK591 := kb_ BK591 hb
           replace HB := Aside0.mk (below_step (B6_ HB.out GE542.out GE563.out GE564.out GE573.out GE582.out GE591.out) hb)
           (try clear hb)
           (try clear hb2)
           (try clear hk)
           (try clear hi)
           refine hK.out _ _ ⟨(blk_cell BK542.out 0).trans rfl, (blk_cell BK542.out 1).trans rfl, (blk_cell BK542.out 2).trans rfl, (blk_cell BK563.out 0).trans rfl, (blk_cell BK563.out 1).trans rfl, (blk_cell BK563.out 2).trans rfl, (blk_cell BK564.out 0).trans rfl, (blk_cell BK564.out 1).trans rfl, (blk_cell BK564.out 2).trans rfl, (blk_cell BK582.out 0).trans rfl, (blk_cell BK582.out 1).trans rfl, (blk_cell BK582.out 2).trans rfl, (blk_cell BK591.out 0).trans rfl, (blk_cell BK591.out 1).trans rfl, (blk_cell BK591.out 2).trans rfl⟩ (fun hHeld => ?_)
           clear hK K
           refine nm_ (some 109) ?_
           refine on_ HT_ (i := 41) (N := some 111) (mk_ 45 4398046511103) rfl rfl (fun K hK => ?_)
           refine goes_ Try.func24 (by kernel_rfl) rfl #[.agg #[.int .i64 t535, .slice Ao9 t536.length co9, .slice Ao10 t539.length co10]] (by rfl) rfl rfl ma_ ?_
           with_reducible refine (spec_IsUniform.calls k1 t535 _ _ t536 _ _ t539 t600 _ ?side1 ?side2 ?side3 ?side4 A45.out).mono ?_
           (case side1 => exact crb_ HO_543001)
           (case side2 => exact lrb_ HO_543001)
           (case side3 => exact cnb_ HO_543002)
           (case side4 => exact lnb_ HO_543002)
           rintro e w97 ⟨rfl, hb⟩
           refine ⟨_, rfl, ?_⟩
           replace HO_543001 := rb_ HO_543001 hb
           replace HO_543002 := nb_ HO_543002 hb
           replace HO552 := rb_ HO552 hb
           replace HO555 := nb_ HO555 hb
           replace HO559 := rb_ HO559 hb
           replace HO562 := nb_ HO562 hb
           replace HO568 := rb_ HO568 hb
           replace HO571 := nb_ HO571 hb
           replace HO577 := rb_ HO577 hb
           replace HO580 := nb_ HO580 hb
           replace HO586 := rb_ HO586 hb
           replace HO589 := nb_ HO589 hb
           replace BK542 := kb_ BK542 hb
           replace BK563 := kb_ BK563 hb
           replace BK564 := kb_ BK564 hb
           replace BK573 := kb_ BK573 hb
           replace BK582 := kb_ BK582 hb
           replace BK591 := kb_ BK591 hb
           replace HB := Aside0.mk (below_step (B6_ HB.out GE542.out GE563.out GE564.out GE573.out GE582.out GE591.out) hb)
           (try clear hb)
           (try clear hb2)
           (try clear hk)
           (try clear hi)
           refine hK.out _ _ ⟨(blk_cell BK542.out 0).trans rfl, (blk_cell BK542.out 1).trans rfl, (blk_cell BK542.out 2).trans rfl, (blk_cell BK563.out 0).trans rfl, (blk_cell BK563.out 1).trans rfl, (blk_cell BK563.out 2).trans rfl, (blk_cell BK564.out 0).trans rfl, (blk_cell BK564.out 1).trans rfl, (blk_cell BK564.out 2).trans rfl, (blk_cell BK582.out 0).trans rfl, (blk_cell BK582.out 1).trans rfl, (blk_cell BK582.out 2).trans rfl, (blk_cell BK591.out 0).trans rfl, (blk_cell BK591.out 1).trans rfl, (blk_cell BK591.out 2).trans rfl⟩ (fun hHeld => ?_)
           clear hK K
           refine nm_ (some 111) ?_
           refine pu_ HT_ (i := 42) (N := some 112) (mk_ 45 8796093022207) rfl rfl ?_
           refine pu_ HT_ (i := 43) (N := some 113) (mk_ 45 17592186044415) rfl rfl ?_
           refine pu_ HT_ (i := 44) (N := some 2) (mk_ 45 35184372088831) rfl rfl ?_
           refine done_ (done_of HT_.out (by kernel_rfl)) ?_
           try go_wp2
           go_ret
           exact ⟨er_, B6_ HB.out GE542.out GE563.out GE564.out GE573.out GE582.out GE591.out⟩
          ·replace c43 := Bool.eq_false_iff.mpr c43
           subst c43
           have H1 : (some false) = some r := by rw [if_neg (show ¬ (false = true) by decide)] at H; exact H
           clear H
           have H := H1
           clear H1
           obtain rfl := Option.some.inj H
           refine pu_ HT_ (i := 36) (N := some 106) (mk_ 45 137438953471) rfl rfl ?_
           refine pu_ HT_ (i := 37) (N := some 107) (mk_ 45 274877906943) rfl rfl ?_
           refine un_ HT_ (i := 38) (N := some 108) (mk_ 45 549755813887) rfl rfl ?_
           refine un_ HT_ (i := 39) (N := some 109) (mk_ 45 1099511627775) rfl rfl ?_
           refine un_ HT_ (i := 40) (N := some 110) (mk_ 45 2199023255551) rfl rfl ?_
           refine un_ HT_ (i := 41) (N := some 111) (mk_ 45 4398046511103) rfl rfl ?_
           refine un_ HT_ (i := 42) (N := some 112) (mk_ 45 8796093022207) rfl rfl ?_
           refine pu_ HT_ (i := 43) (N := some 113) (mk_ 45 17592186044415) rfl rfl ?_
           refine pu_ HT_ (i := 44) (N := some 2) (mk_ 45 35184372088831) rfl rfl ?_
           refine done_ (done_of HT_.out (by kernel_rfl)) ?_
           try go_wp2
           go_ret
           exact ⟨er_, B6_ HB.out GE542.out GE563.out GE564.out GE573.out GE582.out GE591.out⟩
         ·rw [if_neg c41] at H
          have c41b0 : (t581 == t590) = false := by simpa using c41
          (try (have c41b1 : decide (t581 = t590) = false := by simpa using c41))
          (try (have c41b2 : (t581 == t590) = false := by simpa using c41))
          (try (have c41b3 : ¬ (t581 = t590) := by simpa using c41))
          clear c41
          obtain rfl := Option.some.inj H
          refine pu_ HT_ (i := 25) (N := some 95) (mk_ 45 67108863) rfl rfl ?_
          refine pu_ HT_ (i := 26) (N := some 96) (mk_ 45 134217727) rfl rfl ?_
          refine pu_ HT_ (i := 27) (N := some 97) (mk_ 45 268435455) rfl rfl ?_
          refine pu_ HT_ (i := 28) (N := some 98) (mk_ 45 536870911) rfl rfl ?_
          refine pu_ HT_ (i := 29) (N := some 99) (mk_ 45 1073741823) rfl rfl ?_
          refine pu_ HT_ (i := 30) (N := some 100) (mk_ 45 2147483647) rfl rfl ?_
          refine pu_ HT_ (i := 31) (N := some 101) (mk_ 45 4294967295) rfl rfl ?_
          refine pu_ HT_ (i := 32) (N := some 102) (mk_ 45 8589934591) rfl rfl ?_
          refine un_ HT_ (i := 33) (N := some 103) (mk_ 45 17179869183) rfl rfl ?_
          refine un_ HT_ (i := 34) (N := some 104) (mk_ 45 34359738367) rfl rfl ?_
          refine un_ HT_ (i := 35) (N := some 105) (mk_ 45 68719476735) rfl rfl ?_
          refine pu_ HT_ (i := 36) (N := some 106) (mk_ 45 137438953471) rfl rfl ?_
          refine pu_ HT_ (i := 37) (N := some 107) (mk_ 45 274877906943) rfl rfl ?_
          refine un_ HT_ (i := 38) (N := some 108) (mk_ 45 549755813887) rfl rfl ?_
          refine un_ HT_ (i := 39) (N := some 109) (mk_ 45 1099511627775) rfl rfl ?_
          refine un_ HT_ (i := 40) (N := some 110) (mk_ 45 2199023255551) rfl rfl ?_
          refine un_ HT_ (i := 41) (N := some 111) (mk_ 45 4398046511103) rfl rfl ?_
          refine un_ HT_ (i := 42) (N := some 112) (mk_ 45 8796093022207) rfl rfl ?_
          refine pu_ HT_ (i := 43) (N := some 113) (mk_ 45 17592186044415) rfl rfl ?_
          refine pu_ HT_ (i := 44) (N := some 2) (mk_ 45 35184372088831) rfl rfl ?_
          refine done_ (done_of HT_.out (by kernel_rfl)) ?_
          try go_wp2
          go_ret
          exact ⟨er_, B6_ HB.out GE542.out GE563.out GE564.out GE573.out GE582.out GE591.out⟩
        ·rw [if_neg c40] at H
         have c40b0 : (t596 == t597) = false := by simpa using c40
         (try (have c40b1 : decide (t596 = t597) = false := by simpa using c40))
         (try (have c40b2 : (t596 == t597) = false := by simpa using c40))
         (try (have c40b3 : ¬ (t596 = t597) := by simpa using c40))
         clear c40
         obtain rfl := Option.some.inj H
         refine pu_ HT_ (i := 25) (N := some 95) (mk_ 45 67108863) rfl rfl ?_
         refine pu_ HT_ (i := 26) (N := some 96) (mk_ 45 134217727) rfl rfl ?_
         refine pu_ HT_ (i := 27) (N := some 97) (mk_ 45 268435455) rfl rfl ?_
         refine un_ HT_ (i := 28) (N := some 98) (mk_ 45 536870911) rfl rfl ?_
         refine un_ HT_ (i := 29) (N := some 99) (mk_ 45 1073741823) rfl rfl ?_
         refine un_ HT_ (i := 30) (N := some 100) (mk_ 45 2147483647) rfl rfl ?_
         refine pu_ HT_ (i := 31) (N := some 101) (mk_ 45 4294967295) rfl rfl ?_
         refine pu_ HT_ (i := 32) (N := some 102) (mk_ 45 8589934591) rfl rfl ?_
         refine un_ HT_ (i := 33) (N := some 103) (mk_ 45 17179869183) rfl rfl ?_
         refine un_ HT_ (i := 34) (N := some 104) (mk_ 45 34359738367) rfl rfl ?_
         refine un_ HT_ (i := 35) (N := some 105) (mk_ 45 68719476735) rfl rfl ?_
         refine pu_ HT_ (i := 36) (N := some 106) (mk_ 45 137438953471) rfl rfl ?_
         refine pu_ HT_ (i := 37) (N := some 107) (mk_ 45 274877906943) rfl rfl ?_
         refine un_ HT_ (i := 38) (N := some 108) (mk_ 45 549755813887) rfl rfl ?_
         refine un_ HT_ (i := 39) (N := some 109) (mk_ 45 1099511627775) rfl rfl ?_
         refine un_ HT_ (i := 40) (N := some 110) (mk_ 45 2199023255551) rfl rfl ?_
         refine un_ HT_ (i := 41) (N := some 111) (mk_ 45 4398046511103) rfl rfl ?_
         refine un_ HT_ (i := 42) (N := some 112) (mk_ 45 8796093022207) rfl rfl ?_
         refine pu_ HT_ (i := 43) (N := some 113) (mk_ 45 17592186044415) rfl rfl ?_
         refine pu_ HT_ (i := 44) (N := some 2) (mk_ 45 35184372088831) rfl rfl ?_
         refine done_ (done_of HT_.out (by kernel_rfl)) ?_
         try go_wp2
         go_ret
         exact ⟨er_, B6_ HB.out GE542.out GE563.out GE564.out GE573.out GE582.out GE591.out⟩
       ·rw [if_neg c37] at H
        have c37b0 : (t594 == t595) = false := by simpa using c37
        (try (have c37b1 : decide (t594 = t595) = false := by simpa using c37))
        (try (have c37b2 : (t594 == t595) = false := by simpa using c37))
        (try (have c37b3 : ¬ (t594 = t595) := by simpa using c37))
        clear c37
        obtain rfl := Option.some.inj H
        refine pu_ HT_ (i := 16) (N := some 86) (mk_ 45 131071) rfl rfl ?_
        refine pu_ HT_ (i := 17) (N := some 87) (mk_ 45 262143) rfl rfl ?_
        refine pu_ HT_ (i := 18) (N := some 88) (mk_ 45 524287) rfl rfl ?_
        refine un_ HT_ (i := 19) (N := some 89) (mk_ 45 1048575) rfl rfl ?_
        refine un_ HT_ (i := 20) (N := some 90) (mk_ 45 2097151) rfl rfl ?_
        refine un_ HT_ (i := 21) (N := some 91) (mk_ 45 4194303) rfl rfl ?_
        refine un_ HT_ (i := 22) (N := some 92) (mk_ 45 8388607) rfl rfl ?_
        refine un_ HT_ (i := 23) (N := some 93) (mk_ 45 16777215) rfl rfl ?_
        refine un_ HT_ (i := 24) (N := some 94) (mk_ 45 33554431) rfl rfl ?_
        refine un_ HT_ (i := 25) (N := some 95) (mk_ 45 67108863) rfl rfl ?_
        refine pu_ HT_ (i := 26) (N := some 96) (mk_ 45 134217727) rfl rfl ?_
        refine pu_ HT_ (i := 27) (N := some 97) (mk_ 45 268435455) rfl rfl ?_
        refine un_ HT_ (i := 28) (N := some 98) (mk_ 45 536870911) rfl rfl ?_
        refine un_ HT_ (i := 29) (N := some 99) (mk_ 45 1073741823) rfl rfl ?_
        refine un_ HT_ (i := 30) (N := some 100) (mk_ 45 2147483647) rfl rfl ?_
        refine pu_ HT_ (i := 31) (N := some 101) (mk_ 45 4294967295) rfl rfl ?_
        refine pu_ HT_ (i := 32) (N := some 102) (mk_ 45 8589934591) rfl rfl ?_
        refine un_ HT_ (i := 33) (N := some 103) (mk_ 45 17179869183) rfl rfl ?_
        refine un_ HT_ (i := 34) (N := some 104) (mk_ 45 34359738367) rfl rfl ?_
        refine un_ HT_ (i := 35) (N := some 105) (mk_ 45 68719476735) rfl rfl ?_
        refine pu_ HT_ (i := 36) (N := some 106) (mk_ 45 137438953471) rfl rfl ?_
        refine pu_ HT_ (i := 37) (N := some 107) (mk_ 45 274877906943) rfl rfl ?_
        refine un_ HT_ (i := 38) (N := some 108) (mk_ 45 549755813887) rfl rfl ?_
        refine un_ HT_ (i := 39) (N := some 109) (mk_ 45 1099511627775) rfl rfl ?_
        refine un_ HT_ (i := 40) (N := some 110) (mk_ 45 2199023255551) rfl rfl ?_
        refine un_ HT_ (i := 41) (N := some 111) (mk_ 45 4398046511103) rfl rfl ?_
        refine un_ HT_ (i := 42) (N := some 112) (mk_ 45 8796093022207) rfl rfl ?_
        refine pu_ HT_ (i := 43) (N := some 113) (mk_ 45 17592186044415) rfl rfl ?_
        refine pu_ HT_ (i := 44) (N := some 2) (mk_ 45 35184372088831) rfl rfl ?_
        refine done_ (done_of HT_.out (by kernel_rfl)) ?_
        try go_wp2
        go_ret
        exact ⟨er_, B6_ HB.out GE542.out GE563.out GE564.out GE573.out GE582.out GE591.out⟩
      ·rw [if_neg c34] at H
       have c34b0 : (t593 == (wrap64 (x5_1 + 1))) = false := beq_eq_false_iff_ne.mpr c34
       have c34b1 : (t593 != (wrap64 (x5_1 + 1))) = true := bne_iff_ne.mpr c34
       obtain rfl := Option.some.inj H
       refine pu_ HT_ (i := 9) (N := some 79) (mk_ 45 1023) rfl rfl ?_
       refine pu_ HT_ (i := 10) (N := some 80) (mk_ 45 2047) rfl rfl ?_
       refine pu_ HT_ (i := 11) (N := some 81) (mk_ 45 4095) rfl rfl ?_
       refine un_ HT_ (i := 12) (N := some 82) (mk_ 45 8191) rfl rfl ?_
       refine un_ HT_ (i := 13) (N := some 83) (mk_ 45 16383) rfl rfl ?_
       refine un_ HT_ (i := 14) (N := some 84) (mk_ 45 32767) rfl rfl ?_
       refine un_ HT_ (i := 15) (N := some 85) (mk_ 45 65535) rfl rfl ?_
       refine un_ HT_ (i := 16) (N := some 86) (mk_ 45 131071) rfl rfl ?_
       refine pu_ HT_ (i := 17) (N := some 87) (mk_ 45 262143) rfl rfl ?_
       refine pu_ HT_ (i := 18) (N := some 88) (mk_ 45 524287) rfl rfl ?_
       refine un_ HT_ (i := 19) (N := some 89) (mk_ 45 1048575) rfl rfl ?_
       refine un_ HT_ (i := 20) (N := some 90) (mk_ 45 2097151) rfl rfl ?_
       refine un_ HT_ (i := 21) (N := some 91) (mk_ 45 4194303) rfl rfl ?_
       refine un_ HT_ (i := 22) (N := some 92) (mk_ 45 8388607) rfl rfl ?_
       refine un_ HT_ (i := 23) (N := some 93) (mk_ 45 16777215) rfl rfl ?_
       refine un_ HT_ (i := 24) (N := some 94) (mk_ 45 33554431) rfl rfl ?_
       refine un_ HT_ (i := 25) (N := some 95) (mk_ 45 67108863) rfl rfl ?_
       refine pu_ HT_ (i := 26) (N := some 96) (mk_ 45 134217727) rfl rfl ?_
       refine pu_ HT_ (i := 27) (N := some 97) (mk_ 45 268435455) rfl rfl ?_
       refine un_ HT_ (i := 28) (N := some 98) (mk_ 45 536870911) rfl rfl ?_
       refine un_ HT_ (i := 29) (N := some 99) (mk_ 45 1073741823) rfl rfl ?_
       refine un_ HT_ (i := 30) (N := some 100) (mk_ 45 2147483647) rfl rfl ?_
       refine pu_ HT_ (i := 31) (N := some 101) (mk_ 45 4294967295) rfl rfl ?_
       refine pu_ HT_ (i := 32) (N := some 102) (mk_ 45 8589934591) rfl rfl ?_
       refine un_ HT_ (i := 33) (N := some 103) (mk_ 45 17179869183) rfl rfl ?_
       refine un_ HT_ (i := 34) (N := some 104) (mk_ 45 34359738367) rfl rfl ?_
       refine un_ HT_ (i := 35) (N := some 105) (mk_ 45 68719476735) rfl rfl ?_
       refine pu_ HT_ (i := 36) (N := some 106) (mk_ 45 137438953471) rfl rfl ?_
       refine pu_ HT_ (i := 37) (N := some 107) (mk_ 45 274877906943) rfl rfl ?_
       refine un_ HT_ (i := 38) (N := some 108) (mk_ 45 549755813887) rfl rfl ?_
       refine un_ HT_ (i := 39) (N := some 109) (mk_ 45 1099511627775) rfl rfl ?_
       refine un_ HT_ (i := 40) (N := some 110) (mk_ 45 2199023255551) rfl rfl ?_
       refine un_ HT_ (i := 41) (N := some 111) (mk_ 45 4398046511103) rfl rfl ?_
       refine un_ HT_ (i := 42) (N := some 112) (mk_ 45 8796093022207) rfl rfl ?_
       refine pu_ HT_ (i := 43) (N := some 113) (mk_ 45 17592186044415) rfl rfl ?_
       refine pu_ HT_ (i := 44) (N := some 2) (mk_ 45 35184372088831) rfl rfl ?_
       refine done_ (done_of HT_.out (by kernel_rfl)) ?_
       try go_wp2
       go_ret
       exact ⟨er_, B6_ HB.out GE542.out GE563.out GE564.out GE573.out GE582.out GE591.out⟩
     ·rw [if_neg c32] at H
      have c32b0 : (t592 == x4_1) = false := beq_eq_false_iff_ne.mpr c32
      have c32b1 : (t592 != x4_1) = true := bne_iff_ne.mpr c32
      obtain rfl := Option.some.inj H
      refine pu_ HT_ (i := 3) (N := some 73) (mk_ 45 15) rfl rfl ?_
      refine pu_ HT_ (i := 4) (N := some 74) (mk_ 45 31) rfl rfl ?_
      refine un_ HT_ (i := 5) (N := some 75) (mk_ 45 63) rfl rfl ?_
      refine un_ HT_ (i := 6) (N := some 76) (mk_ 45 127) rfl rfl ?_
      refine un_ HT_ (i := 7) (N := some 77) (mk_ 45 255) rfl rfl ?_
      refine un_ HT_ (i := 8) (N := some 78) (mk_ 45 511) rfl rfl ?_
      refine un_ HT_ (i := 9) (N := some 79) (mk_ 45 1023) rfl rfl ?_
      refine pu_ HT_ (i := 10) (N := some 80) (mk_ 45 2047) rfl rfl ?_
      refine pu_ HT_ (i := 11) (N := some 81) (mk_ 45 4095) rfl rfl ?_
      refine un_ HT_ (i := 12) (N := some 82) (mk_ 45 8191) rfl rfl ?_
      refine un_ HT_ (i := 13) (N := some 83) (mk_ 45 16383) rfl rfl ?_
      refine un_ HT_ (i := 14) (N := some 84) (mk_ 45 32767) rfl rfl ?_
      refine un_ HT_ (i := 15) (N := some 85) (mk_ 45 65535) rfl rfl ?_
      refine un_ HT_ (i := 16) (N := some 86) (mk_ 45 131071) rfl rfl ?_
      refine pu_ HT_ (i := 17) (N := some 87) (mk_ 45 262143) rfl rfl ?_
      refine pu_ HT_ (i := 18) (N := some 88) (mk_ 45 524287) rfl rfl ?_
      refine un_ HT_ (i := 19) (N := some 89) (mk_ 45 1048575) rfl rfl ?_
      refine un_ HT_ (i := 20) (N := some 90) (mk_ 45 2097151) rfl rfl ?_
      refine un_ HT_ (i := 21) (N := some 91) (mk_ 45 4194303) rfl rfl ?_
      refine un_ HT_ (i := 22) (N := some 92) (mk_ 45 8388607) rfl rfl ?_
      refine un_ HT_ (i := 23) (N := some 93) (mk_ 45 16777215) rfl rfl ?_
      refine un_ HT_ (i := 24) (N := some 94) (mk_ 45 33554431) rfl rfl ?_
      refine un_ HT_ (i := 25) (N := some 95) (mk_ 45 67108863) rfl rfl ?_
      refine pu_ HT_ (i := 26) (N := some 96) (mk_ 45 134217727) rfl rfl ?_
      refine pu_ HT_ (i := 27) (N := some 97) (mk_ 45 268435455) rfl rfl ?_
      refine un_ HT_ (i := 28) (N := some 98) (mk_ 45 536870911) rfl rfl ?_
      refine un_ HT_ (i := 29) (N := some 99) (mk_ 45 1073741823) rfl rfl ?_
      refine un_ HT_ (i := 30) (N := some 100) (mk_ 45 2147483647) rfl rfl ?_
      refine pu_ HT_ (i := 31) (N := some 101) (mk_ 45 4294967295) rfl rfl ?_
      refine pu_ HT_ (i := 32) (N := some 102) (mk_ 45 8589934591) rfl rfl ?_
      refine un_ HT_ (i := 33) (N := some 103) (mk_ 45 17179869183) rfl rfl ?_
      refine un_ HT_ (i := 34) (N := some 104) (mk_ 45 34359738367) rfl rfl ?_
      refine un_ HT_ (i := 35) (N := some 105) (mk_ 45 68719476735) rfl rfl ?_
      refine pu_ HT_ (i := 36) (N := some 106) (mk_ 45 137438953471) rfl rfl ?_
      refine pu_ HT_ (i := 37) (N := some 107) (mk_ 45 274877906943) rfl rfl ?_
      refine un_ HT_ (i := 38) (N := some 108) (mk_ 45 549755813887) rfl rfl ?_
      refine un_ HT_ (i := 39) (N := some 109) (mk_ 45 1099511627775) rfl rfl ?_
      refine un_ HT_ (i := 40) (N := some 110) (mk_ 45 2199023255551) rfl rfl ?_
      refine un_ HT_ (i := 41) (N := some 111) (mk_ 45 4398046511103) rfl rfl ?_
      refine un_ HT_ (i := 42) (N := some 112) (mk_ 45 8796093022207) rfl rfl ?_
      refine pu_ HT_ (i := 43) (N := some 113) (mk_ 45 17592186044415) rfl rfl ?_
      refine pu_ HT_ (i := 44) (N := some 2) (mk_ 45 35184372088831) rfl rfl ?_
      refine done_ (done_of HT_.out (by kernel_rfl)) ?_
      try go_wp2
      go_ret
      exact ⟨er_, B6_ HB.out GE542.out GE563.out GE564.out GE573.out GE582.out GE591.out⟩

/-- THE ONE PURE STATEMENT of laws_FnTypes: yours. -/
def laws_FnTypes.Pure : Prop := ∀ (l0 : List Int), l0.length ≤ maxLen → l0.length * 1 ≤ 140737488351232 → (∀ x ∈ l0, (Lit.int .u8 x).wf = true) → ∃ k, laws_FnTypes.f k l0 = some true
theorem laws_FnTypes.walk (P : laws_FnTypes.Pure) (a0 : Option Addr) (len0 cap0 : Nat) (z0 : List Int) (w : World) (w0 : (a0 = none ∧ len0 = 0 ∧ cap0 = 0 ∧ z0 = []) ∨ ∃ x, a0 = some x ∧ len0 ≤ cap0 ∧ cap0 ≤ maxLen ∧ z0.length = cap0 ∧ (∀ i, i < z0.length → w.cell? (x.add i) = some (.int .u8 (z0.getD i 0))) ∧ ∀ n ∈ z0, (Lit.int .u8 n).wf = true) (y0 : len0 * 1 ≤ 140737488351232) :
  Calls Try.prog 9 #[.slice a0 len0 cap0] w fun e w' => e = .returned (.bool true) ∧ Below w.heap.size w w' := by
 obtain ⟨l0, rfl, hr0, hm0, hw0, hc0⟩ := ReadsInt.ofRowC w0
 obtain ⟨k, h⟩ := P l0 hm0 y0 hw0
 refine (laws_FnTypes.calls k _ _ l0 true w (Kd.C_of_reads (d := (0 : Int)) (h1 := fun _ => rfl) hr0) hc0 h).mono ?_
 rintro e w' ⟨rfl, hd⟩
 exact ⟨rfl, hd⟩

end Go.Proofs.Ytingaflikkeefaa.XB
