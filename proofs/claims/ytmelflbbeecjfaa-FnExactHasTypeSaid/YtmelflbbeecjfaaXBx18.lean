-- Written by myprint.py, a program of this session, which runs the kit's printer with changes of its own. Lean checks it.
import Derived.Test.YtmelflbbeecjfaaXBx0
import Derived.Test.YtmelflbbeecjfaaXBx1
import Derived.Test.YtmelflbbeecjfaaXBx2
import Derived.Test.YtmelflbbeecjfaaXBx3
import Derived.Test.YtmelflbbeecjfaaXBx4
import Derived.Test.YtmelflbbeecjfaaXBx10
import Derived.Test.YtmelflbbeecjfaaXBx17
import Derived.Test.YtmelflbbeecjfaaSq
namespace Go.Proofs.Ytmelflbbeecjfaa.XB
open Go.RowKit Go.Proofs.YtmelflbbeecjfaaW.PrintWords Go.Proofs.YtmelflbbeecjfaaW.PrintLast Go.Proofs.YtmelflbbeecjfaaW.PrintMore Go.Proofs.Ytmelflbbeecjfaa.Sq
attribute [local go_sem] max2_int min2_int max_two min_two max_three min_three max_four min_four   -- for this text's walks alone
set_option linter.unusedVariables false
set_option linter.unusedSimpArgs false

/-! ### laws_FnExactHasType: function 8 -/
def laws_FnExactHasType.f (k : Nat) (a0_0 : Int) (a0_1 : Int) (a0_2 : ByteArray) (l0_3 : List ByteArray) (l0_4 : List (S25)) (a1_0 : Int) (l1_1 : List ByteArray) (l1_2 : List (S39)) : Option (Bool) := (laws_szValue.f k a0_0 a0_1 a0_2 l0_3 l0_4 1048576).bind fun t293 => (if t293 < 0 then (some true) else ((laws_szType.f k a1_0 l1_1 l1_2 t293).bind fun t294 => (if t294 < 0 then (some true) else ((laws_toValue.f k a0_0 a0_1 a0_2 l0_3 l0_4).bind fun bt295 => ((laws_toType.f k a1_0 l1_1 l1_2).bind fun bt304 => ((spec_HasType.f k bt295.1 bt295.2.1 bt295.2.2.1 bt295.2.2.2.1 bt295.2.2.2.2 bt304.1 bt304.2.1 bt304.2.2).bind fun t311 => ((laws_toValue.f k a0_0 a0_1 a0_2 l0_3 l0_4).bind fun bt312 => ((laws_toType.f k a1_0 l1_1 l1_2).bind fun bt322 => ((impl_HasType.f k bt312.1 bt312.2.1 bt312.2.2.1 bt312.2.2.2.1 bt312.2.2.2.2 bt322.1 bt322.2.1 bt322.2.2).bind fun t330 => (if (t330 != t311) = true then (some false) else ((laws_toValue.f k a0_0 a0_1 a0_2 l0_3 l0_4).bind fun bt331 => ((laws_eqValue.f k bt312.1 bt312.2.1 bt312.2.2.1 bt312.2.2.2.1 bt312.2.2.2.2 bt331.1 bt331.2.1 bt331.2.2.1 bt331.2.2.2.1 bt331.2.2.2.2).bind fun t340 => (if t340 = true then ((laws_toType.f k a1_0 l1_1 l1_2).bind fun bt341 => ((laws_eqType.f k bt322.1 bt322.2.1 bt322.2.2 bt341.1 bt341.2.1 bt341.2.2).bind fun t348 => (if t348 = true then (some true) else (some false)))) else (some false))))))))))))))
theorem laws_FnExactHasType.mono : ∀ a0 a1 a2 a3 a4 a5 a6 a7 k, LeO (laws_FnExactHasType.f k a0 a1 a2 a3 a4 a5 a6 a7) (laws_FnExactHasType.f (k + 1) a0 a1 a2 a3 a4 a5 a6 a7) := by
 intro a0 a1 a2 a3 a4 a5 a6 a7 k
 unfold laws_FnExactHasType.f
 repeat' first
   | (with_reducible exact impl_HasType.mono _ _ _ _ _ _ _ _ _)
   | (with_reducible exact laws_eqType.mono _ _ _ _ _ _ _)
   | (with_reducible exact laws_eqValue.mono _ _ _ _ _ _ _ _ _ _ _)
   | (with_reducible exact laws_szType.mono _ _ _ _ _)
   | (with_reducible exact laws_szValue.mono _ _ _ _ _ _ _)
   | (with_reducible exact laws_toType.mono _ _ _ _)
   | (with_reducible exact laws_toValue.mono _ _ _ _ _ _)
   | (with_reducible exact spec_HasType.mono _ _ _ _ _ _ _ _ _)
   | (with_reducible exact LeO.refl _)
   | (with_reducible exact LeO.none _)
   | (with_reducible refine LeO.ite ?_ ?_)
   | (with_reducible refine LeO.bind ?_ (fun _ => ?_))
   | exact impl_HasType.mono _ _ _ _ _ _ _ _ _
   | exact laws_eqType.mono _ _ _ _ _ _ _
   | exact laws_eqValue.mono _ _ _ _ _ _ _ _ _ _ _
   | exact laws_szType.mono _ _ _ _ _
   | exact laws_szValue.mono _ _ _ _ _ _ _
   | exact laws_toType.mono _ _ _ _
   | exact laws_toValue.mono _ _ _ _ _ _
   | exact spec_HasType.mono _ _ _ _ _ _ _ _ _
   | exact LeO.none _
   | refine LeO.ite ?_ ?_
   | refine LeO.bind ?_ (fun _ => ?_)
set_option maxHeartbeats 8000000 in
set_option maxRecDepth 100000 in
theorem laws_FnExactHasType.calls (k : Nat) (a0_0 : Int) (a0_1 : Int) (a0_2 : ByteArray) (A0_3 : Option Addr) (c0_3 : Nat) (l0_3 : List ByteArray) (A0_4 : Option Addr) (c0_4 : Nat) (l0_4 : List (S25)) (a1_0 : Int) (A1_1 : Option Addr) (c1_1 : Nat) (l1_1 : List ByteArray) (A1_2 : Option Addr) (c1_2 : Nat) (l1_2 : List (S39)) (r : Bool) (w : World) (hr0_3 : Kd.C Kd.string w A0_3 l0_3.length l0_3) (hc0_3 : l0_3.length ≤ c0_3) (hr0_4 : Kd.C k25 w A0_4 l0_4.length l0_4) (hc0_4 : l0_4.length ≤ c0_4) (hr1_1 : Kd.C Kd.string w A1_1 l1_1.length l1_1) (hc1_1 : l1_1.length ≤ c1_1) (hr1_2 : Kd.C k39 w A1_2 l1_2.length l1_2) (hc1_2 : l1_2.length ≤ c1_2) (h : laws_FnExactHasType.f k a0_0 a0_1 a0_2 l0_3 l0_4 a1_0 l1_1 l1_2 = some r) :
  Calls Try.prog 8 #[.agg #[.int .i64 a0_0, .int .i64 a0_1, .string a0_2, .slice A0_3 l0_3.length c0_3, .slice A0_4 l0_4.length c0_4], .agg #[.int .i64 a1_0, .slice A1_1 l1_1.length c1_1, .slice A1_2 l1_2.length c1_2]] w fun e w' => e = .returned (.bool r) ∧ Below w.heap.size w w' := by
 have hu25 := Try.underlying25
 have hu39 := Try.underlying39
 have hu30 := Try.underlying30
 have hu44 := Try.underlying44
 have HR0_3 := Aside0.mk hr0_3
 have HC0_3 := Aside0.mk hc0_3
 clear hr0_3 hc0_3
 have HR0_4 := Aside0.mk hr0_4
 have HC0_4 := Aside0.mk hc0_4
 clear hr0_4 hc0_4
 have HR1_1 := Aside0.mk hr1_1
 have HC1_1 := Aside0.mk hc1_1
 clear hr1_1 hc1_1
 have HR1_2 := Aside0.mk hr1_2
 have HC1_2 := Aside0.mk hc1_2
 clear hr1_2 hc1_2
 have HB := Aside0.mk (Below.refl w.heap.size w)
 have H : ((laws_szValue.f k a0_0 a0_1 a0_2 l0_3 l0_4 1048576).bind fun t293 => (if t293 < 0 then (some true) else ((laws_szType.f k a1_0 l1_1 l1_2 t293).bind fun t294 => (if t294 < 0 then (some true) else ((laws_toValue.f k a0_0 a0_1 a0_2 l0_3 l0_4).bind fun bt295 => ((laws_toType.f k a1_0 l1_1 l1_2).bind fun bt304 => ((spec_HasType.f k bt295.1 bt295.2.1 bt295.2.2.1 bt295.2.2.2.1 bt295.2.2.2.2 bt304.1 bt304.2.1 bt304.2.2).bind fun t311 => ((laws_toValue.f k a0_0 a0_1 a0_2 l0_3 l0_4).bind fun bt312 => ((laws_toType.f k a1_0 l1_1 l1_2).bind fun bt322 => ((impl_HasType.f k bt312.1 bt312.2.1 bt312.2.2.1 bt312.2.2.2.1 bt312.2.2.2.2 bt322.1 bt322.2.1 bt322.2.2).bind fun t330 => (if (t330 != t311) = true then (some false) else ((laws_toValue.f k a0_0 a0_1 a0_2 l0_3 l0_4).bind fun bt331 => ((laws_eqValue.f k bt312.1 bt312.2.1 bt312.2.2.1 bt312.2.2.2.1 bt312.2.2.2.2 bt331.1 bt331.2.1 bt331.2.2.1 bt331.2.2.2.1 bt331.2.2.2.2).bind fun t340 => (if t340 = true then ((laws_toType.f k a1_0 l1_1 l1_2).bind fun bt341 => ((laws_eqType.f k bt322.1 bt322.2.1 bt322.2.2 bt341.1 bt341.2.1 bt341.2.2).bind fun t348 => (if t348 = true then (some true) else (some false)))) else (some false))))))))))))))) = some r := h
 clear h
 replace H := Option.bind_eq_some_iff.mp H
 obtain ⟨t293, A30, H⟩ := H
 replace H : (if t293 < 0 then (some true) else ((laws_szType.f k a1_0 l1_1 l1_2 t293).bind fun t294 => (if t294 < 0 then (some true) else ((laws_toValue.f k a0_0 a0_1 a0_2 l0_3 l0_4).bind fun bt295 => ((laws_toType.f k a1_0 l1_1 l1_2).bind fun bt304 => ((spec_HasType.f k bt295.1 bt295.2.1 bt295.2.2.1 bt295.2.2.2.1 bt295.2.2.2.2 bt304.1 bt304.2.1 bt304.2.2).bind fun t311 => ((laws_toValue.f k a0_0 a0_1 a0_2 l0_3 l0_4).bind fun bt312 => ((laws_toType.f k a1_0 l1_1 l1_2).bind fun bt322 => ((impl_HasType.f k bt312.1 bt312.2.1 bt312.2.2.1 bt312.2.2.2.1 bt312.2.2.2.2 bt322.1 bt322.2.1 bt322.2.2).bind fun t330 => (if (t330 != t311) = true then (some false) else ((laws_toValue.f k a0_0 a0_1 a0_2 l0_3 l0_4).bind fun bt331 => ((laws_eqValue.f k bt312.1 bt312.2.1 bt312.2.2.1 bt312.2.2.2.1 bt312.2.2.2.2 bt331.1 bt331.2.1 bt331.2.2.1 bt331.2.2.2.1 bt331.2.2.2.2).bind fun t340 => (if t340 = true then ((laws_toType.f k a1_0 l1_1 l1_2).bind fun bt341 => ((laws_eqType.f k bt322.1 bt322.2.1 bt322.2.2 bt341.1 bt341.2.1 bt341.2.2).bind fun t348 => (if t348 = true then (some true) else (some false)))) else (some false)))))))))))))) = some r := H
 have A3 := Aside0.mk A30
 clear A30
 have HC4 := Aside0.mk H
 clear H
 go_enter Try.func8, Try.ntmps8
 go_upto_if 14 with (first | ((with_reducible refine gate_dst (N := 2) rfl ?_); refine box_event ?hg (N := 2) ?hd (cs := #[.int .i64 a0_0, .int .i64 a0_1, .string a0_2, .slice A0_3 l0_3.length c0_3, .slice A0_4 l0_4.length c0_4]) (t := 25) ?hr ?_; (case hd => rfl); (case hg => rfl); (case hr => first | (go_simp; done) | (go_simp; rfl)); intro gb291 hg w5 hbox hb; have BK291 := Aside0.mk (hbox); have GW291 := Aside0.mk ((by rw [hg]; exact (below_size (B0_ HB.out)) : w.heap.size ≤ gb291)); have GE291 := Aside0.mk ((by rw [hg]; exact (below_size (B0_ HB.out)) : w.heap.size ≤ gb291)); replace HB := Aside0.mk (below_step (B0_ HB.out) hb); clear hb hbox hg) | ((with_reducible refine gate_dst (N := 3) rfl ?_); refine box_event ?hg (N := 3) ?hd (cs := #[.int .i64 a1_0, .slice A1_1 l1_1.length c1_1, .slice A1_2 l1_2.length c1_2]) (t := 39) ?hr ?_; (case hd => rfl); (case hg => rfl); (case hr => first | (go_simp; done) | (go_simp; rfl)); intro gb292 hg w6 hbox hb; have BK292 := Aside0.mk (hbox); have GW292 := Aside0.mk ((by rw [hg]; exact (below_size (B1_ HB.out GE291.out)) : w.heap.size ≤ gb292)); have GE292 := Aside0.mk ((by rw [hg]; exact (below_size (B1_ HB.out GE291.out)) : w.heap.size ≤ gb292)); replace HB := Aside0.mk (below_step (B1_ HB.out GE291.out) hb); have NB291_292 := Aside0.mk ((by rw [hg]; exact Nat.ne_of_lt (blk_lt (K_ BK291.out)) : gb291 ≠ gb292)); have NB292_291 := Aside0.mk ((by rw [hg]; exact Nat.ne_of_gt (blk_lt (K_ BK291.out)) : gb292 ≠ gb291)); replace BK291 := Aside0.mk (blk_below (K_ BK291.out) hb); clear hb hbox hg; have hnb7 := NB291_292.out; have hnc7 := NB292_291.out; obtain ⟨hcz8_0, hcz8_1, hcz8_2, hcz8_3, hcz8_4, hfz8_0, hfz8_1, hfz8_2, hfz8_3, hfz8_4⟩ := box5_ BK291.out) | ((with_reducible refine gate_callee (f := 12) rfl ?_); refine goesL_ (some 12) rfl rfl Try.func12 (by kernel_rfl) rfl #[.agg #[.int .i64 a0_0, .int .i64 a0_1, .string a0_2, .slice A0_3 l0_3.length c0_3, .slice A0_4 l0_4.length c0_4], .int .i64 1048576] rfl ma_ ?_; (with_reducible refine (laws_szValue.calls k a0_0 a0_1 a0_2 _ _ l0_3 _ _ l0_4 1048576 t293 _ ?side1 ?side2 ?side3 ?side4 A3.out).mono ?_); (case side1 => exact C_ (Kd.C_below HR0_3.out HB.out)); (case side2 => exact HC0_3.out); (case side3 => exact C_ (Kd.C_below HR0_4.out HB.out)); (case side4 => exact HC0_4.out); rintro e w9 ⟨rfl, hb⟩; refine ⟨_, rfl, ?_⟩; replace BK291 := Aside0.mk (blk_below (K_ BK291.out) hb); replace BK292 := Aside0.mk (blk_below (K_ BK292.out) hb); replace HB := Aside0.mk (below_step (B2_ HB.out GE291.out GE292.out) hb); (try clear hb); (try clear hb2); (try clear hk); (try clear hi)))
 (try simp only [Act.put, List.setIfInBounds_toArray, List.set_cons_zero, List.set_cons_succ])
 have H := HC4.out
 clear HC4
 by_cases c10 : t293 < 0
 ·rw [if_pos c10] at H
  have c10b0 : decide (t293 < 0) = true := decide_eq_true c10
  clear c10
  (first | rw [c10b0] | (simp only [i64_w, i32_w]; rw [c10b0]) | skip)
  obtain rfl := Option.some.inj H
  go_wp2
  go_ret
  exact ⟨er_, B2_ HB.out GE291.out GE292.out⟩
 ·rw [if_neg c10] at H
  have c10b0 : decide (t293 < 0) = false := decide_eq_false c10
  clear c10
  (first | rw [c10b0] | (simp only [i64_w, i32_w]; rw [c10b0]) | skip)
  replace H := Option.bind_eq_some_iff.mp H
  obtain ⟨t294, A110, H⟩ := H
  replace H : (if t294 < 0 then (some true) else ((laws_toValue.f k a0_0 a0_1 a0_2 l0_3 l0_4).bind fun bt295 => ((laws_toType.f k a1_0 l1_1 l1_2).bind fun bt304 => ((spec_HasType.f k bt295.1 bt295.2.1 bt295.2.2.1 bt295.2.2.2.1 bt295.2.2.2.2 bt304.1 bt304.2.1 bt304.2.2).bind fun t311 => ((laws_toValue.f k a0_0 a0_1 a0_2 l0_3 l0_4).bind fun bt312 => ((laws_toType.f k a1_0 l1_1 l1_2).bind fun bt322 => ((impl_HasType.f k bt312.1 bt312.2.1 bt312.2.2.1 bt312.2.2.2.1 bt312.2.2.2.2 bt322.1 bt322.2.1 bt322.2.2).bind fun t330 => (if (t330 != t311) = true then (some false) else ((laws_toValue.f k a0_0 a0_1 a0_2 l0_3 l0_4).bind fun bt331 => ((laws_eqValue.f k bt312.1 bt312.2.1 bt312.2.2.1 bt312.2.2.2.1 bt312.2.2.2.2 bt331.1 bt331.2.1 bt331.2.2.1 bt331.2.2.2.1 bt331.2.2.2.2).bind fun t340 => (if t340 = true then ((laws_toType.f k a1_0 l1_1 l1_2).bind fun bt341 => ((laws_eqType.f k bt322.1 bt322.2.1 bt322.2.2 bt341.1 bt341.2.1 bt341.2.2).bind fun t348 => (if t348 = true then (some true) else (some false)))) else (some false)))))))))))) = some r := H
  have A11 := Aside0.mk A110
  clear A110
  have HC12 := Aside0.mk H
  clear H
  have hnb13 := NB292_291.out
  have hnc13 := NB291_292.out
  obtain ⟨hcz14_0, hcz14_1, hcz14_2, hfz14_0, hfz14_1, hfz14_2⟩ := box3_ BK292.out
  go_upto_if 19 with (first | ((with_reducible refine gate_callee (f := 23) rfl ?_); refine goesL_ (some 17) rfl rfl Try.func23 (by kernel_rfl) rfl #[.agg #[.int .i64 a1_0, .slice A1_1 l1_1.length c1_1, .slice A1_2 l1_2.length c1_2], .int .i64 t293] rfl ma_ ?_; (with_reducible refine (laws_szType.calls k a1_0 _ _ l1_1 _ _ l1_2 t293 t294 _ ?side1 ?side2 ?side3 ?side4 A11.out).mono ?_); (case side1 => exact C_ (Kd.C_below HR1_1.out HB.out)); (case side2 => exact HC1_1.out); (case side3 => exact C_ (Kd.C_below HR1_2.out HB.out)); (case side4 => exact HC1_2.out); rintro e w15 ⟨rfl, hb⟩; refine ⟨_, rfl, ?_⟩; replace BK291 := Aside0.mk (blk_below (K_ BK291.out) hb); replace BK292 := Aside0.mk (blk_below (K_ BK292.out) hb); replace HB := Aside0.mk (below_step (B2_ HB.out GE291.out GE292.out) hb); (try clear hb); (try clear hb2); (try clear hk); (try clear hi)))
  (try simp only [Act.put, List.setIfInBounds_toArray, List.set_cons_zero, List.set_cons_succ])
  have H := HC12.out
  clear HC12
  by_cases c16 : t294 < 0
  ·rw [if_pos c16] at H
   have c16b0 : decide (t294 < 0) = true := decide_eq_true c16
   clear c16
   (first | rw [c16b0] | (simp only [i64_w, i32_w]; rw [c16b0]) | skip)
   obtain rfl := Option.some.inj H
   go_wp2
   go_ret
   exact ⟨er_, B2_ HB.out GE291.out GE292.out⟩
  ·rw [if_neg c16] at H
   have c16b0 : decide (t294 < 0) = false := decide_eq_false c16
   clear c16
   (first | rw [c16b0] | (simp only [i64_w, i32_w]; rw [c16b0]) | skip)
   replace H := Option.bind_eq_some_iff.mp H
   obtain ⟨⟨t295, t296, t297, t298, t301⟩, A170, H⟩ := H
   replace H : ((laws_toType.f k a1_0 l1_1 l1_2).bind fun bt304 => ((spec_HasType.f k t295 t296 t297 t298 t301 bt304.1 bt304.2.1 bt304.2.2).bind fun t311 => ((laws_toValue.f k a0_0 a0_1 a0_2 l0_3 l0_4).bind fun bt312 => ((laws_toType.f k a1_0 l1_1 l1_2).bind fun bt322 => ((impl_HasType.f k bt312.1 bt312.2.1 bt312.2.2.1 bt312.2.2.2.1 bt312.2.2.2.2 bt322.1 bt322.2.1 bt322.2.2).bind fun t330 => (if (t330 != t311) = true then (some false) else ((laws_toValue.f k a0_0 a0_1 a0_2 l0_3 l0_4).bind fun bt331 => ((laws_eqValue.f k bt312.1 bt312.2.1 bt312.2.2.1 bt312.2.2.2.1 bt312.2.2.2.2 bt331.1 bt331.2.1 bt331.2.2.1 bt331.2.2.2.1 bt331.2.2.2.2).bind fun t340 => (if t340 = true then ((laws_toType.f k a1_0 l1_1 l1_2).bind fun bt341 => ((laws_eqType.f k bt322.1 bt322.2.1 bt322.2.2 bt341.1 bt341.2.1 bt341.2.2).bind fun t348 => (if t348 = true then (some true) else (some false)))) else (some false)))))))))) = some r := H
   have A17 := Aside0.mk A170
   clear A170
   replace H := Option.bind_eq_some_iff.mp H
   obtain ⟨⟨t304, t305, t308⟩, A180, H⟩ := H
   replace H : ((spec_HasType.f k t295 t296 t297 t298 t301 t304 t305 t308).bind fun t311 => ((laws_toValue.f k a0_0 a0_1 a0_2 l0_3 l0_4).bind fun bt312 => ((laws_toType.f k a1_0 l1_1 l1_2).bind fun bt322 => ((impl_HasType.f k bt312.1 bt312.2.1 bt312.2.2.1 bt312.2.2.2.1 bt312.2.2.2.2 bt322.1 bt322.2.1 bt322.2.2).bind fun t330 => (if (t330 != t311) = true then (some false) else ((laws_toValue.f k a0_0 a0_1 a0_2 l0_3 l0_4).bind fun bt331 => ((laws_eqValue.f k bt312.1 bt312.2.1 bt312.2.2.1 bt312.2.2.2.1 bt312.2.2.2.2 bt331.1 bt331.2.1 bt331.2.2.1 bt331.2.2.2.1 bt331.2.2.2.2).bind fun t340 => (if t340 = true then ((laws_toType.f k a1_0 l1_1 l1_2).bind fun bt341 => ((laws_eqType.f k bt322.1 bt322.2.1 bt322.2.2 bt341.1 bt341.2.1 bt341.2.2).bind fun t348 => (if t348 = true then (some true) else (some false)))) else (some false))))))))) = some r := H
   have A18 := Aside0.mk A180
   clear A180
   replace H := Option.bind_eq_some_iff.mp H
   obtain ⟨t311, A190, H⟩ := H
   replace H : ((laws_toValue.f k a0_0 a0_1 a0_2 l0_3 l0_4).bind fun bt312 => ((laws_toType.f k a1_0 l1_1 l1_2).bind fun bt322 => ((impl_HasType.f k bt312.1 bt312.2.1 bt312.2.2.1 bt312.2.2.2.1 bt312.2.2.2.2 bt322.1 bt322.2.1 bt322.2.2).bind fun t330 => (if (t330 != t311) = true then (some false) else ((laws_toValue.f k a0_0 a0_1 a0_2 l0_3 l0_4).bind fun bt331 => ((laws_eqValue.f k bt312.1 bt312.2.1 bt312.2.2.1 bt312.2.2.2.1 bt312.2.2.2.2 bt331.1 bt331.2.1 bt331.2.2.1 bt331.2.2.2.1 bt331.2.2.2.2).bind fun t340 => (if t340 = true then ((laws_toType.f k a1_0 l1_1 l1_2).bind fun bt341 => ((laws_eqType.f k bt322.1 bt322.2.1 bt322.2.2 bt341.1 bt341.2.1 bt341.2.2).bind fun t348 => (if t348 = true then (some true) else (some false)))) else (some false)))))))) = some r := H
   have A19 := Aside0.mk A190
   clear A190
   replace H := Option.bind_eq_some_iff.mp H
   obtain ⟨⟨t312, t313, t314, t315, t318⟩, A200, H⟩ := H
   replace H : ((laws_toType.f k a1_0 l1_1 l1_2).bind fun bt322 => ((impl_HasType.f k t312 t313 t314 t315 t318 bt322.1 bt322.2.1 bt322.2.2).bind fun t330 => (if (t330 != t311) = true then (some false) else ((laws_toValue.f k a0_0 a0_1 a0_2 l0_3 l0_4).bind fun bt331 => ((laws_eqValue.f k t312 t313 t314 t315 t318 bt331.1 bt331.2.1 bt331.2.2.1 bt331.2.2.2.1 bt331.2.2.2.2).bind fun t340 => (if t340 = true then ((laws_toType.f k a1_0 l1_1 l1_2).bind fun bt341 => ((laws_eqType.f k bt322.1 bt322.2.1 bt322.2.2 bt341.1 bt341.2.1 bt341.2.2).bind fun t348 => (if t348 = true then (some true) else (some false)))) else (some false))))))) = some r := H
   have A20 := Aside0.mk A200
   clear A200
   replace H := Option.bind_eq_some_iff.mp H
   obtain ⟨⟨t322, t323, t326⟩, A210, H⟩ := H
   replace H : ((impl_HasType.f k t312 t313 t314 t315 t318 t322 t323 t326).bind fun t330 => (if (t330 != t311) = true then (some false) else ((laws_toValue.f k a0_0 a0_1 a0_2 l0_3 l0_4).bind fun bt331 => ((laws_eqValue.f k t312 t313 t314 t315 t318 bt331.1 bt331.2.1 bt331.2.2.1 bt331.2.2.2.1 bt331.2.2.2.2).bind fun t340 => (if t340 = true then ((laws_toType.f k a1_0 l1_1 l1_2).bind fun bt341 => ((laws_eqType.f k t322 t323 t326 bt341.1 bt341.2.1 bt341.2.2).bind fun t348 => (if t348 = true then (some true) else (some false)))) else (some false)))))) = some r := H
   have A21 := Aside0.mk A210
   clear A210
   replace H := Option.bind_eq_some_iff.mp H
   obtain ⟨t330, A220, H⟩ := H
   replace H : (if (t330 != t311) = true then (some false) else ((laws_toValue.f k a0_0 a0_1 a0_2 l0_3 l0_4).bind fun bt331 => ((laws_eqValue.f k t312 t313 t314 t315 t318 bt331.1 bt331.2.1 bt331.2.2.1 bt331.2.2.2.1 bt331.2.2.2.2).bind fun t340 => (if t340 = true then ((laws_toType.f k a1_0 l1_1 l1_2).bind fun bt341 => ((laws_eqType.f k t322 t323 t326 bt341.1 bt341.2.1 bt341.2.2).bind fun t348 => (if t348 = true then (some true) else (some false)))) else (some false))))) = some r := H
   have A22 := Aside0.mk A220
   clear A220
   have HC23 := Aside0.mk H
   clear H
   try go_wp2
   replace BK291 := Aside0.mk (blk_drew BK291.out)
   replace BK292 := Aside0.mk (blk_drew BK292.out)
   replace HB := Aside0.mk (below_drew1 HB.out)
   refine start_ (n := 6) (S := fun w' => w'.cell? ⟨gb291, 0, none⟩ = some (.int .i64 a0_0) ∧ w'.cell? ⟨gb291, 1, none⟩ = some (.int .i64 a0_1) ∧ w'.cell? ⟨gb291, 2, none⟩ = some (.string a0_2) ∧ w'.cell? ⟨gb291, 3, none⟩ = some (.slice A0_3 l0_3.length c0_3) ∧ w'.cell? ⟨gb291, 4, none⟩ = some (.slice A0_4 l0_4.length c0_4) ∧ w'.cell? ⟨gb292, 0, none⟩ = some (.int .i64 a1_0) ∧ w'.cell? ⟨gb292, 1, none⟩ = some (.slice A1_1 l1_1.length c1_1) ∧ w'.cell? ⟨gb292, 2, none⟩ = some (.slice A1_2 l1_2.length c1_2)) (ds := []) #[false, false, false, false, false, false] (by kernel_rfl) rfl rfl ⟨(blk_cell BK291.out 0).trans rfl, (blk_cell BK291.out 1).trans rfl, (blk_cell BK291.out 2).trans rfl, (blk_cell BK291.out 3).trans rfl, (blk_cell BK291.out 4).trans rfl, (blk_cell BK292.out 0).trans rfl, (blk_cell BK292.out 1).trans rfl, (blk_cell BK292.out 2).trans rfl⟩ (fun hHeld => ?_)
   generalize w15.drew = w24 at BK291 BK292 HB hHeld ⊢
   refine take_ (i := 0) (N := some 20) (v := ?_) (a' := ?_) #[true, false, false, false, false, false] rfl rfl (by kernel_rfl) (fun _ _ _ h => h) (Or.inl ⟨by rfl, ?_⟩) hHeld ?_ ?_
   rotate_left
   ·rintro w' ⟨s0, s1, s2, s3, s4, s5, s6, s7⟩
    go_simp
    with_reducible rfl
   rotate_left
   ·simp only [Act.put, List.setIfInBounds_toArray, List.set_cons_zero, List.set_cons_succ, i64_w, i32_w]
    rfl
   refine take_ (i := 2) (N := some 22) (v := ?_) (a' := ?_) #[true, false, true, false, false, false] rfl rfl (by kernel_rfl) (fun _ _ _ h => h) (Or.inl ⟨by rfl, ?_⟩) hHeld ?_ ?_
   rotate_left
   ·rintro w' ⟨s0, s1, s2, s3, s4, s5, s6, s7⟩
    go_simp
    with_reducible rfl
   rotate_left
   ·simp only [Act.put, List.setIfInBounds_toArray, List.set_cons_zero, List.set_cons_succ, i64_w, i32_w]
    rfl
   refine one_ (i := 1) (N := some 21) #[true, true, true, false, false, false] rfl rfl (by kernel_rfl) (by decide) (fun K hK => ?_)
   refine goes_ Try.func14 (by kernel_rfl) rfl #[.agg #[.int .i64 a0_0, .int .i64 a0_1, .string a0_2, .slice A0_3 l0_3.length c0_3, .slice A0_4 l0_4.length c0_4]] (by rfl) rfl rfl ma_ ?_
   with_reducible refine (laws_toValue.calls k a0_0 a0_1 a0_2 _ _ l0_3 _ _ l0_4 t295 t296 t297 t298 t301 _ ?side1 ?side2 ?side3 ?side4 A17.out).mono ?_
   (case side1 => exact C_ (Kd.C_below HR0_3.out HB.out))
   (case side2 => exact HC0_3.out)
   (case side3 => exact C_ (Kd.C_below HR0_4.out HB.out))
   (case side4 => exact HC0_4.out)
   rintro e w25 ⟨v299, v302, rfl, ho0, ho1, hb⟩
   refine ⟨_, rfl, ?_⟩
   have HO300 := Aside0.mk (Kd.R_lower ho0 (below_size (B2_ HB.out GE291.out GE292.out)))
   have HO303 := Aside0.mk (Kd.R_lower ho1 (below_size (B2_ HB.out GE291.out GE292.out)))
   replace BK291 := Aside0.mk (blk_below (K_ BK291.out) hb)
   replace BK292 := Aside0.mk (blk_below (K_ BK292.out) hb)
   replace HB := Aside0.mk (below_step (B2_ HB.out GE291.out GE292.out) hb)
   (try clear hb)
   (try clear hb2)
   (try clear hk)
   (try clear hi)
   (try clear ho0)
   (try clear ho1)
   refine hK.out _ _ ⟨(blk_cell BK291.out 0).trans rfl, (blk_cell BK291.out 1).trans rfl, (blk_cell BK291.out 2).trans rfl, (blk_cell BK291.out 3).trans rfl, (blk_cell BK291.out 4).trans rfl, (blk_cell BK292.out 0).trans rfl, (blk_cell BK292.out 1).trans rfl, (blk_cell BK292.out 2).trans rfl⟩ (fun hHeld => ?_)
   clear hK K
   refine norm_ (a' := ?_) ?_ ?_
   rotate_left
   ·show Act.put _ (some 21) _ = _
    simp only [Act.put, List.setIfInBounds_toArray, List.set_cons_zero, List.set_cons_succ, i64_w, i32_w]
    rfl
   refine one_ (i := 3) (N := some 23) #[true, true, true, true, false, false] rfl rfl (by kernel_rfl) (by decide) (fun K hK => ?_)
   refine goes_ Try.func25 (by kernel_rfl) rfl #[.agg #[.int .i64 a1_0, .slice A1_1 l1_1.length c1_1, .slice A1_2 l1_2.length c1_2]] (by rfl) rfl rfl ma_ ?_
   with_reducible refine (laws_toType.calls k a1_0 _ _ l1_1 _ _ l1_2 t304 t305 t308 _ ?side1 ?side2 ?side3 ?side4 A18.out).mono ?_
   (case side1 => exact C_ (Kd.C_below HR1_1.out HB.out))
   (case side2 => exact HC1_1.out)
   (case side3 => exact C_ (Kd.C_below HR1_2.out HB.out))
   (case side4 => exact HC1_2.out)
   rintro e w26 ⟨v306, v309, rfl, ho0, ho1, hb⟩
   refine ⟨_, rfl, ?_⟩
   replace HO303 := Aside0.mk (Kd.R_elder' (R_ HO303.out) (Kd.R_base ho0) hb)
   have HO307 := Aside0.mk (Kd.R_lower (Kd.R_new' ho0 (Kd.R_lt (R_ HO300.out))) (below_size (B2_ HB.out GE291.out GE292.out)))
   have HO310 := Aside0.mk (Kd.R_lower (Kd.R_new' ho1 (Kd.R_lt (R_ HO300.out))) (below_size (B2_ HB.out GE291.out GE292.out)))
   replace HO300 := Aside0.mk (Kd.R_elder' (R_ HO300.out) (Kd.R_base ho0) hb)
   replace BK291 := Aside0.mk (blk_below (K_ BK291.out) hb)
   replace BK292 := Aside0.mk (blk_below (K_ BK292.out) hb)
   replace HB := Aside0.mk (below_step (B2_ HB.out GE291.out GE292.out) hb)
   (try clear hb)
   (try clear hb2)
   (try clear hk)
   (try clear hi)
   (try clear ho0)
   (try clear ho1)
   obtain ⟨Ao27, co27, eo27⟩ := Kd.R_slice HO300.out
   (first | subst eo27 | (injection eo27 with f1_ f2_ f3_; have f4_ := f1_.symm; have f5_ := f3_.symm; clear f1_ f2_ f3_; subst f4_; subst f5_))
   obtain ⟨Ao28, co28, eo28⟩ := Kd.R_slice HO303.out
   (first | subst eo28 | (injection eo28 with f1_ f2_ f3_; have f4_ := f1_.symm; have f5_ := f3_.symm; clear f1_ f2_ f3_; subst f4_; subst f5_))
   obtain ⟨Ao29, co29, eo29⟩ := Kd.R_slice HO307.out
   (first | subst eo29 | (injection eo29 with f1_ f2_ f3_; have f4_ := f1_.symm; have f5_ := f3_.symm; clear f1_ f2_ f3_; subst f4_; subst f5_))
   obtain ⟨Ao30, co30, eo30⟩ := Kd.R_slice HO310.out
   (first | subst eo30 | (injection eo30 with f1_ f2_ f3_; have f4_ := f1_.symm; have f5_ := f3_.symm; clear f1_ f2_ f3_; subst f4_; subst f5_))
   refine hK.out _ _ ⟨(blk_cell BK291.out 0).trans rfl, (blk_cell BK291.out 1).trans rfl, (blk_cell BK291.out 2).trans rfl, (blk_cell BK291.out 3).trans rfl, (blk_cell BK291.out 4).trans rfl, (blk_cell BK292.out 0).trans rfl, (blk_cell BK292.out 1).trans rfl, (blk_cell BK292.out 2).trans rfl⟩ (fun hHeld => ?_)
   clear hK K
   refine norm_ (a' := ?_) ?_ ?_
   rotate_left
   ·show Act.put _ (some 23) _ = _
    simp only [Act.put, List.setIfInBounds_toArray, List.set_cons_zero, List.set_cons_succ, i64_w, i32_w]
    rfl
   refine one_ (i := 4) (N := some 24) #[true, true, true, true, true, false] rfl rfl (by kernel_rfl) (by decide) (fun K hK => ?_)
   refine goes_ Try.func31 (by kernel_rfl) rfl #[.agg #[.int .i64 t295, .int .i64 t296, .string t297, .slice Ao27 t298.length co27, .slice Ao28 t301.length co28], .agg #[.int .i64 t304, .slice Ao29 t305.length co29, .slice Ao30 t308.length co30]] (by rfl) rfl rfl ma_ ?_
   with_reducible refine (spec_HasType.calls k t295 t296 t297 _ _ t298 _ _ t301 t304 _ _ t305 _ _ t308 t311 _ ?side1 ?side2 ?side3 ?side4 ?side5 ?side6 ?side7 ?side8 A19.out).mono ?_
   (case side1 => exact C_ (Kd.R_reads' HO300.out).2.2)
   (case side2 => exact (Kd.R_reads' HO300.out).2.1)
   (case side3 => exact C_ (Kd.R_reads' HO303.out).2.2)
   (case side4 => exact (Kd.R_reads' HO303.out).2.1)
   (case side5 => exact C_ (Kd.R_reads' HO307.out).2.2)
   (case side6 => exact (Kd.R_reads' HO307.out).2.1)
   (case side7 => exact C_ (Kd.R_reads' HO310.out).2.2)
   (case side8 => exact (Kd.R_reads' HO310.out).2.1)
   rintro e w31 ⟨rfl, hb⟩
   refine ⟨_, rfl, ?_⟩
   replace HO300 := Aside0.mk (Kd.R_below (R_ HO300.out) hb)
   replace HO303 := Aside0.mk (Kd.R_below (R_ HO303.out) hb)
   replace HO307 := Aside0.mk (Kd.R_below (R_ HO307.out) hb)
   replace HO310 := Aside0.mk (Kd.R_below (R_ HO310.out) hb)
   replace BK291 := Aside0.mk (blk_below (K_ BK291.out) hb)
   replace BK292 := Aside0.mk (blk_below (K_ BK292.out) hb)
   replace HB := Aside0.mk (below_step (B2_ HB.out GE291.out GE292.out) hb)
   (try clear hb)
   (try clear hb2)
   (try clear hk)
   (try clear hi)
   refine hK.out _ _ ⟨(blk_cell BK291.out 0).trans rfl, (blk_cell BK291.out 1).trans rfl, (blk_cell BK291.out 2).trans rfl, (blk_cell BK291.out 3).trans rfl, (blk_cell BK291.out 4).trans rfl, (blk_cell BK292.out 0).trans rfl, (blk_cell BK292.out 1).trans rfl, (blk_cell BK292.out 2).trans rfl⟩ (fun hHeld => ?_)
   clear hK K
   refine norm_ (a' := ?_) ?_ ?_
   rotate_left
   ·show Act.put _ (some 24) _ = _
    simp only [Act.put, List.setIfInBounds_toArray, List.set_cons_zero, List.set_cons_succ, i64_w, i32_w]
    rfl
   refine pure_ (i := 5) (N := some 6) (v := ?_) (a' := ?_) #[true, true, true, true, true, true] rfl rfl (by kernel_rfl) (fun _ _ _ h => h) (Or.inl ⟨by rfl, ?_⟩) ?_ ?_
   rotate_left
   ·intro w'
    go_simp
    with_reducible rfl
   rotate_left
   ·simp only [Act.put, List.setIfInBounds_toArray, List.set_cons_zero, List.set_cons_succ, i64_w, i32_w]
    rfl
   refine done_ (by kernel_rfl) ?_
   have hnb32 := NB291_292.out
   have hnc32 := NB292_291.out
   obtain ⟨hcz33_0, hcz33_1, hcz33_2, hcz33_3, hcz33_4, hfz33_0, hfz33_1, hfz33_2, hfz33_3, hfz33_4⟩ := box5_ BK291.out
   go_upto_if 34 with (first | ((with_reducible refine gate_callee (f := 14) rfl ?_); refine goesL_ (some 26) rfl rfl Try.func14 (by kernel_rfl) rfl #[.agg #[.int .i64 a0_0, .int .i64 a0_1, .string a0_2, .slice A0_3 l0_3.length c0_3, .slice A0_4 l0_4.length c0_4]] rfl ma_ ?_; (with_reducible refine (laws_toValue.calls k a0_0 a0_1 a0_2 _ _ l0_3 _ _ l0_4 t312 t313 t314 t315 t318 _ ?side1 ?side2 ?side3 ?side4 A20.out).mono ?_); (case side1 => exact C_ (Kd.C_below HR0_3.out HB.out)); (case side2 => exact HC0_3.out); (case side3 => exact C_ (Kd.C_below HR0_4.out HB.out)); (case side4 => exact HC0_4.out); rintro e w34 ⟨v316, v319, rfl, ho0, ho1, hb⟩; refine ⟨_, rfl, ?_⟩; replace HO310 := Aside0.mk (Kd.R_elder' (R_ HO310.out) (Kd.R_base ho0) hb); have HO317 := Aside0.mk (Kd.R_lower (Kd.R_new' (Kd.R_new' ho0 (Kd.R_lt (R_ HO300.out))) (Kd.R_lt (R_ HO307.out))) (below_size (B2_ HB.out GE291.out GE292.out))); have HO320 := Aside0.mk (Kd.R_lower (Kd.R_new' (Kd.R_new' (Kd.R_new' ho1 (Kd.R_lt (R_ HO300.out))) (Kd.R_lt (R_ HO303.out))) (Kd.R_lt (R_ HO307.out))) (below_size (B2_ HB.out GE291.out GE292.out))); replace HO300 := Aside0.mk (Kd.R_elder' (R_ HO300.out) (Kd.R_base ho0) hb); replace HO303 := Aside0.mk (Kd.R_mono (Kd.R_told (Kd.R_told (Kd.R_old (R_ HO303.out) hb) (Kd.R_base ho0)) (Kd.R_base ho1)) (fun _ h_ => h_.1)); replace HO307 := Aside0.mk (Kd.R_elder' (R_ HO307.out) (Kd.R_base ho0) hb); replace BK291 := Aside0.mk (blk_below (K_ BK291.out) hb); replace BK292 := Aside0.mk (blk_below (K_ BK292.out) hb); replace HB := Aside0.mk (below_step (B2_ HB.out GE291.out GE292.out) hb); (try clear hb); (try clear hb2); (try clear hk); (try clear hi); (try clear ho0); (try clear ho1)) | ((with_reducible refine gate_dst (N := 7) rfl ?_); refine box_event ?hg (N := 7) ?hd (cs := #[.int .i64 0, .int .i64 0, .string (⟨#[]⟩ : ByteArray), .slice none 0 0, .slice none 0 0]) (t := 30) ?hr ?_; (case hd => rfl); (case hg => rfl); (case hr => first | (go_simp; done) | (go_simp; rfl)); intro gb321 hg w35 hbox hb; replace HO300 := Aside0.mk (Kd.R_below (R_ HO300.out) hb); replace HO303 := Aside0.mk (Kd.R_below (Kd.R_elderB (R_ HO303.out) gb321 (Nat.le_of_eq hg.symm)) hb); replace HO307 := Aside0.mk (Kd.R_below (R_ HO307.out) hb); replace HO310 := Aside0.mk (Kd.R_below (R_ HO310.out) hb); replace HO317 := Aside0.mk (Kd.R_below (R_ HO317.out) hb); replace HO320 := Aside0.mk (Kd.R_below (Kd.R_elderB (R_ HO320.out) gb321 (Nat.le_of_eq hg.symm)) hb); have BK321 := Aside0.mk (hbox); have GW321 := Aside0.mk ((by rw [hg]; exact (below_size (B2_ HB.out GE291.out GE292.out)) : w.heap.size ≤ gb321)); have GE321 := Aside0.mk ((by rw [hg]; exact (below_size (B2_ HB.out GE291.out GE292.out)) : w.heap.size ≤ gb321)); replace HB := Aside0.mk (below_step (B2_ HB.out GE291.out GE292.out) hb); have NB291_321 := Aside0.mk ((by rw [hg]; exact Nat.ne_of_lt (blk_lt (K_ BK291.out)) : gb291 ≠ gb321)); have NB321_291 := Aside0.mk ((by rw [hg]; exact Nat.ne_of_gt (blk_lt (K_ BK291.out)) : gb321 ≠ gb291)); replace BK291 := Aside0.mk (blk_below (K_ BK291.out) hb); have NB292_321 := Aside0.mk ((by rw [hg]; exact Nat.ne_of_lt (blk_lt (K_ BK292.out)) : gb292 ≠ gb321)); have NB321_292 := Aside0.mk ((by rw [hg]; exact Nat.ne_of_gt (blk_lt (K_ BK292.out)) : gb321 ≠ gb292)); replace BK292 := Aside0.mk (blk_below (K_ BK292.out) hb); clear hb hbox hg; have hnb36 := NB321_291.out; have hnc36 := NB291_321.out; have hnb37 := NB321_292.out; have hnc37 := NB292_321.out; obtain ⟨hcz38_0, hcz38_1, hcz38_2, hcz38_3, hcz38_4, hfz38_0, hfz38_1, hfz38_2, hfz38_3, hfz38_4⟩ := box5_ BK321.out; obtain ⟨Ao39, co39, eo39⟩ := Kd.R_slice HO317.out; subst eo39; obtain ⟨Ao40, co40, eo40⟩ := Kd.R_slice HO320.out; subst eo40; obtain ⟨hcz41_0, hcz41_1, hcz41_2, hfz41_0, hfz41_1, hfz41_2⟩ := box3_ BK292.out) | ((with_reducible refine gate_callee (f := 25) rfl ?_); refine goesL_ (some 28) rfl rfl Try.func25 (by kernel_rfl) rfl #[.agg #[.int .i64 a1_0, .slice A1_1 l1_1.length c1_1, .slice A1_2 l1_2.length c1_2]] rfl ma_ ?_; (with_reducible refine (laws_toType.calls k a1_0 _ _ l1_1 _ _ l1_2 t322 t323 t326 _ ?side1 ?side2 ?side3 ?side4 A21.out).mono ?_); (case side1 => exact Kd.C_below HR1_1.out (B3_ HB.out GE291.out GE292.out GE321.out)); (case side2 => exact HC1_1.out); (case side3 => exact Kd.C_below HR1_2.out (B3_ HB.out GE291.out GE292.out GE321.out)); (case side4 => exact HC1_2.out); rintro e w42 ⟨v324, v327, rfl, ho0, ho1, hb⟩; refine ⟨_, rfl, ?_⟩; replace HO303 := Aside0.mk (Kd.R_elder' (by (with_reducible repeat (first | apply Kd.R_alloc | apply Kd.R_drewN | apply Kd.R_drew)); exact (Kd.R_mono (Kd.R_far (p := ⟨gb321, 4, none⟩) (Kd.R_far (p := ⟨gb321, 3, none⟩) (Kd.R_far (p := ⟨gb321, 2, none⟩) (Kd.R_far (p := ⟨gb321, 1, none⟩) (Kd.R_far (p := ⟨gb321, 0, none⟩) (Kd.R_mono HO303.out (fun k_ hk => (⟨hk, hk.2⟩ : _ ∧ k_ ≠ gb321))) (fun _ hk => hk.2) (.int .i64 t312)) (fun _ hk => hk.2) (.int .i64 t313)) (fun _ hk => hk.2) (.string t314)) (fun _ hk => hk.2) (.slice Ao39 t315.length co39)) (fun _ hk => hk.2) (.slice Ao40 t318.length co40)) (fun _ h_ => h_.1))) (Kd.R_base ho0) hb); replace HO320 := Aside0.mk (Kd.R_elder' (by (with_reducible repeat (first | apply Kd.R_alloc | apply Kd.R_drewN | apply Kd.R_drew)); exact (Kd.R_mono (Kd.R_far (p := ⟨gb321, 4, none⟩) (Kd.R_far (p := ⟨gb321, 3, none⟩) (Kd.R_far (p := ⟨gb321, 2, none⟩) (Kd.R_far (p := ⟨gb321, 1, none⟩) (Kd.R_far (p := ⟨gb321, 0, none⟩) (Kd.R_mono HO320.out (fun k_ hk => (⟨hk, hk.2⟩ : _ ∧ k_ ≠ gb321))) (fun _ hk => hk.2) (.int .i64 t312)) (fun _ hk => hk.2) (.int .i64 t313)) (fun _ hk => hk.2) (.string t314)) (fun _ hk => hk.2) (.slice Ao39 t315.length co39)) (fun _ hk => hk.2) (.slice Ao40 t318.length co40)) (fun _ h_ => h_.1))) (Kd.R_base ho0) hb); have HO325 := Aside0.mk (Kd.R_lower (Kd.R_new' (Kd.R_new' (Kd.R_new' ho0 (Kd.R_lt (by (with_reducible repeat (first | apply Kd.R_alloc | apply Kd.R_drewN | apply Kd.R_drew)); exact (Kd.R_mono (Kd.R_far (p := ⟨gb321, 4, none⟩) (Kd.R_far (p := ⟨gb321, 3, none⟩) (Kd.R_far (p := ⟨gb321, 2, none⟩) (Kd.R_far (p := ⟨gb321, 1, none⟩) (Kd.R_far (p := ⟨gb321, 0, none⟩) (Kd.R_types HO300.out BK321.out (by decide)) (fun _ hk => hk.2) (.int .i64 t312)) (fun _ hk => hk.2) (.int .i64 t313)) (fun _ hk => hk.2) (.string t314)) (fun _ hk => hk.2) (.slice Ao39 t315.length co39)) (fun _ hk => hk.2) (.slice Ao40 t318.length co40)) (fun _ h_ => h_.1))))) (Kd.R_lt (by (with_reducible repeat (first | apply Kd.R_alloc | apply Kd.R_drewN | apply Kd.R_drew)); exact (Kd.R_mono (Kd.R_far (p := ⟨gb321, 4, none⟩) (Kd.R_far (p := ⟨gb321, 3, none⟩) (Kd.R_far (p := ⟨gb321, 2, none⟩) (Kd.R_far (p := ⟨gb321, 1, none⟩) (Kd.R_far (p := ⟨gb321, 0, none⟩) (Kd.R_types HO307.out BK321.out (by decide)) (fun _ hk => hk.2) (.int .i64 t312)) (fun _ hk => hk.2) (.int .i64 t313)) (fun _ hk => hk.2) (.string t314)) (fun _ hk => hk.2) (.slice Ao39 t315.length co39)) (fun _ hk => hk.2) (.slice Ao40 t318.length co40)) (fun _ h_ => h_.1))))) (Kd.R_lt (by (with_reducible repeat (first | apply Kd.R_alloc | apply Kd.R_drewN | apply Kd.R_drew)); exact (Kd.R_mono (Kd.R_far (p := ⟨gb321, 4, none⟩) (Kd.R_far (p := ⟨gb321, 3, none⟩) (Kd.R_far (p := ⟨gb321, 2, none⟩) (Kd.R_far (p := ⟨gb321, 1, none⟩) (Kd.R_far (p := ⟨gb321, 0, none⟩) (Kd.R_types HO317.out BK321.out (by decide)) (fun _ hk => hk.2) (.int .i64 t312)) (fun _ hk => hk.2) (.int .i64 t313)) (fun _ hk => hk.2) (.string t314)) (fun _ hk => hk.2) (.slice Ao39 t315.length co39)) (fun _ hk => hk.2) (.slice Ao40 t318.length co40)) (fun _ h_ => h_.1))))) (below_size (B3_ HB.out GE291.out GE292.out GE321.out))); have HO328 := Aside0.mk (Kd.R_lower (Kd.R_new' (Kd.R_new' (Kd.R_new' (Kd.R_new' ho1 (Kd.R_lt (by (with_reducible repeat (first | apply Kd.R_alloc | apply Kd.R_drewN | apply Kd.R_drew)); exact (Kd.R_mono (Kd.R_far (p := ⟨gb321, 4, none⟩) (Kd.R_far (p := ⟨gb321, 3, none⟩) (Kd.R_far (p := ⟨gb321, 2, none⟩) (Kd.R_far (p := ⟨gb321, 1, none⟩) (Kd.R_far (p := ⟨gb321, 0, none⟩) (Kd.R_types HO300.out BK321.out (by decide)) (fun _ hk => hk.2) (.int .i64 t312)) (fun _ hk => hk.2) (.int .i64 t313)) (fun _ hk => hk.2) (.string t314)) (fun _ hk => hk.2) (.slice Ao39 t315.length co39)) (fun _ hk => hk.2) (.slice Ao40 t318.length co40)) (fun _ h_ => h_.1))))) (Kd.R_lt (by (with_reducible repeat (first | apply Kd.R_alloc | apply Kd.R_drewN | apply Kd.R_drew)); exact (Kd.R_mono (Kd.R_far (p := ⟨gb321, 4, none⟩) (Kd.R_far (p := ⟨gb321, 3, none⟩) (Kd.R_far (p := ⟨gb321, 2, none⟩) (Kd.R_far (p := ⟨gb321, 1, none⟩) (Kd.R_far (p := ⟨gb321, 0, none⟩) (Kd.R_types HO307.out BK321.out (by decide)) (fun _ hk => hk.2) (.int .i64 t312)) (fun _ hk => hk.2) (.int .i64 t313)) (fun _ hk => hk.2) (.string t314)) (fun _ hk => hk.2) (.slice Ao39 t315.length co39)) (fun _ hk => hk.2) (.slice Ao40 t318.length co40)) (fun _ h_ => h_.1))))) (Kd.R_lt (by (with_reducible repeat (first | apply Kd.R_alloc | apply Kd.R_drewN | apply Kd.R_drew)); exact (Kd.R_mono (Kd.R_far (p := ⟨gb321, 4, none⟩) (Kd.R_far (p := ⟨gb321, 3, none⟩) (Kd.R_far (p := ⟨gb321, 2, none⟩) (Kd.R_far (p := ⟨gb321, 1, none⟩) (Kd.R_far (p := ⟨gb321, 0, none⟩) (Kd.R_types HO310.out BK321.out (by decide)) (fun _ hk => hk.2) (.int .i64 t312)) (fun _ hk => hk.2) (.int .i64 t313)) (fun _ hk => hk.2) (.string t314)) (fun _ hk => hk.2) (.slice Ao39 t315.length co39)) (fun _ hk => hk.2) (.slice Ao40 t318.length co40)) (fun _ h_ => h_.1))))) (Kd.R_lt (by (with_reducible repeat (first | apply Kd.R_alloc | apply Kd.R_drewN | apply Kd.R_drew)); exact (Kd.R_mono (Kd.R_far (p := ⟨gb321, 4, none⟩) (Kd.R_far (p := ⟨gb321, 3, none⟩) (Kd.R_far (p := ⟨gb321, 2, none⟩) (Kd.R_far (p := ⟨gb321, 1, none⟩) (Kd.R_far (p := ⟨gb321, 0, none⟩) (Kd.R_types HO317.out BK321.out (by decide)) (fun _ hk => hk.2) (.int .i64 t312)) (fun _ hk => hk.2) (.int .i64 t313)) (fun _ hk => hk.2) (.string t314)) (fun _ hk => hk.2) (.slice Ao39 t315.length co39)) (fun _ hk => hk.2) (.slice Ao40 t318.length co40)) (fun _ h_ => h_.1))))) (below_size (B3_ HB.out GE291.out GE292.out GE321.out))); replace HO300 := Aside0.mk (Kd.R_elder' (by (with_reducible repeat (first | apply Kd.R_alloc | apply Kd.R_drewN | apply Kd.R_drew)); exact (Kd.R_mono (Kd.R_far (p := ⟨gb321, 4, none⟩) (Kd.R_far (p := ⟨gb321, 3, none⟩) (Kd.R_far (p := ⟨gb321, 2, none⟩) (Kd.R_far (p := ⟨gb321, 1, none⟩) (Kd.R_far (p := ⟨gb321, 0, none⟩) (Kd.R_types HO300.out BK321.out (by decide)) (fun _ hk => hk.2) (.int .i64 t312)) (fun _ hk => hk.2) (.int .i64 t313)) (fun _ hk => hk.2) (.string t314)) (fun _ hk => hk.2) (.slice Ao39 t315.length co39)) (fun _ hk => hk.2) (.slice Ao40 t318.length co40)) (fun _ h_ => h_.1))) (Kd.R_base ho0) hb); replace HO307 := Aside0.mk (Kd.R_elder' (by (with_reducible repeat (first | apply Kd.R_alloc | apply Kd.R_drewN | apply Kd.R_drew)); exact (Kd.R_mono (Kd.R_far (p := ⟨gb321, 4, none⟩) (Kd.R_far (p := ⟨gb321, 3, none⟩) (Kd.R_far (p := ⟨gb321, 2, none⟩) (Kd.R_far (p := ⟨gb321, 1, none⟩) (Kd.R_far (p := ⟨gb321, 0, none⟩) (Kd.R_types HO307.out BK321.out (by decide)) (fun _ hk => hk.2) (.int .i64 t312)) (fun _ hk => hk.2) (.int .i64 t313)) (fun _ hk => hk.2) (.string t314)) (fun _ hk => hk.2) (.slice Ao39 t315.length co39)) (fun _ hk => hk.2) (.slice Ao40 t318.length co40)) (fun _ h_ => h_.1))) (Kd.R_base ho0) hb); replace HO310 := Aside0.mk (Kd.R_mono (Kd.R_told (Kd.R_told (Kd.R_old (by (with_reducible repeat (first | apply Kd.R_alloc | apply Kd.R_drewN | apply Kd.R_drew)); exact (Kd.R_mono (Kd.R_far (p := ⟨gb321, 4, none⟩) (Kd.R_far (p := ⟨gb321, 3, none⟩) (Kd.R_far (p := ⟨gb321, 2, none⟩) (Kd.R_far (p := ⟨gb321, 1, none⟩) (Kd.R_far (p := ⟨gb321, 0, none⟩) (Kd.R_types HO310.out BK321.out (by decide)) (fun _ hk => hk.2) (.int .i64 t312)) (fun _ hk => hk.2) (.int .i64 t313)) (fun _ hk => hk.2) (.string t314)) (fun _ hk => hk.2) (.slice Ao39 t315.length co39)) (fun _ hk => hk.2) (.slice Ao40 t318.length co40)) (fun _ h_ => h_.1))) hb) (Kd.R_base ho0)) (Kd.R_base ho1)) (fun _ h_ => h_.1)); replace HO317 := Aside0.mk (Kd.R_elder' (by (with_reducible repeat (first | apply Kd.R_alloc | apply Kd.R_drewN | apply Kd.R_drew)); exact (Kd.R_mono (Kd.R_far (p := ⟨gb321, 4, none⟩) (Kd.R_far (p := ⟨gb321, 3, none⟩) (Kd.R_far (p := ⟨gb321, 2, none⟩) (Kd.R_far (p := ⟨gb321, 1, none⟩) (Kd.R_far (p := ⟨gb321, 0, none⟩) (Kd.R_types HO317.out BK321.out (by decide)) (fun _ hk => hk.2) (.int .i64 t312)) (fun _ hk => hk.2) (.int .i64 t313)) (fun _ hk => hk.2) (.string t314)) (fun _ hk => hk.2) (.slice Ao39 t315.length co39)) (fun _ hk => hk.2) (.slice Ao40 t318.length co40)) (fun _ h_ => h_.1))) (Kd.R_base ho0) hb); replace BK291 := Aside0.mk (blk_below (g := gb291) (o := .cells #[.int .i64 a0_0, .int .i64 a0_1, .string a0_2, .slice A0_3 l0_3.length c0_3, .slice A0_4 l0_4.length c0_4] 25 (0, 0)) (by (with_reducible repeat (first | refine blk_drewN ?_ _ | refine blk_drew ?_ | refine blk_alloc ?_ _)); refine blk_far ?_ NB291_321.out _; (with_reducible repeat (first | refine blk_drewN ?_ _ | refine blk_drew ?_ | refine blk_alloc ?_ _)); refine blk_far ?_ NB291_321.out _; (with_reducible repeat (first | refine blk_drewN ?_ _ | refine blk_drew ?_ | refine blk_alloc ?_ _)); refine blk_far ?_ NB291_321.out _; (with_reducible repeat (first | refine blk_drewN ?_ _ | refine blk_drew ?_ | refine blk_alloc ?_ _)); refine blk_far ?_ NB291_321.out _; (with_reducible repeat (first | refine blk_drewN ?_ _ | refine blk_drew ?_ | refine blk_alloc ?_ _)); refine blk_far ?_ NB291_321.out _; (with_reducible repeat (first | refine blk_drewN ?_ _ | refine blk_drew ?_ | refine blk_alloc ?_ _)); exact BK291.out) hb); replace BK292 := Aside0.mk (blk_below (g := gb292) (o := .cells #[.int .i64 a1_0, .slice A1_1 l1_1.length c1_1, .slice A1_2 l1_2.length c1_2] 39 (0, 0)) (by (with_reducible repeat (first | refine blk_drewN ?_ _ | refine blk_drew ?_ | refine blk_alloc ?_ _)); refine blk_far ?_ NB292_321.out _; (with_reducible repeat (first | refine blk_drewN ?_ _ | refine blk_drew ?_ | refine blk_alloc ?_ _)); refine blk_far ?_ NB292_321.out _; (with_reducible repeat (first | refine blk_drewN ?_ _ | refine blk_drew ?_ | refine blk_alloc ?_ _)); refine blk_far ?_ NB292_321.out _; (with_reducible repeat (first | refine blk_drewN ?_ _ | refine blk_drew ?_ | refine blk_alloc ?_ _)); refine blk_far ?_ NB292_321.out _; (with_reducible repeat (first | refine blk_drewN ?_ _ | refine blk_drew ?_ | refine blk_alloc ?_ _)); refine blk_far ?_ NB292_321.out _; (with_reducible repeat (first | refine blk_drewN ?_ _ | refine blk_drew ?_ | refine blk_alloc ?_ _)); exact BK292.out) hb); replace BK321 := Aside0.mk (blk_below (g := gb321) (o := .cells #[.int .i64 t312, .int .i64 t313, .string t314, .slice Ao39 t315.length co39, .slice Ao40 t318.length co40] 30 (0, 0)) (by (with_reducible repeat (first | refine blk_drewN ?_ _ | refine blk_drew ?_ | refine blk_alloc ?_ _)); refine blk_put (cs := #[.int .i64 t312, .int .i64 t313, .string t314, .slice Ao39 t315.length co39, .slice none 0 0]) ?_ 4 _ rfl; (with_reducible repeat (first | refine blk_drewN ?_ _ | refine blk_drew ?_ | refine blk_alloc ?_ _)); refine blk_put (cs := #[.int .i64 t312, .int .i64 t313, .string t314, .slice none 0 0, .slice none 0 0]) ?_ 3 _ rfl; (with_reducible repeat (first | refine blk_drewN ?_ _ | refine blk_drew ?_ | refine blk_alloc ?_ _)); refine blk_put (cs := #[.int .i64 t312, .int .i64 t313, .string (⟨#[]⟩ : ByteArray), .slice none 0 0, .slice none 0 0]) ?_ 2 _ rfl; (with_reducible repeat (first | refine blk_drewN ?_ _ | refine blk_drew ?_ | refine blk_alloc ?_ _)); refine blk_put (cs := #[.int .i64 t312, .int .i64 0, .string (⟨#[]⟩ : ByteArray), .slice none 0 0, .slice none 0 0]) ?_ 1 _ rfl; (with_reducible repeat (first | refine blk_drewN ?_ _ | refine blk_drew ?_ | refine blk_alloc ?_ _)); refine blk_put (cs := #[.int .i64 0, .int .i64 0, .string (⟨#[]⟩ : ByteArray), .slice none 0 0, .slice none 0 0]) ?_ 0 _ rfl; (with_reducible repeat (first | refine blk_drewN ?_ _ | refine blk_drew ?_ | refine blk_alloc ?_ _)); exact BK321.out) hb); replace HB := Aside0.mk (below_step (B3_ HB.out GE291.out GE292.out GE321.out) hb); (try clear hb); (try clear hb2); (try clear hk); (try clear hi); (try clear ho0); (try clear ho1)) | ((with_reducible refine gate_dst (N := 8) rfl ?_); refine box_event ?hg (N := 8) ?hd (cs := #[.int .i64 0, .slice none 0 0, .slice none 0 0]) (t := 44) ?hr ?_; (case hd => rfl); (case hg => rfl); (case hr => first | (go_simp; done) | (go_simp; rfl)); intro gb329 hg w43 hbox hb; replace HO300 := Aside0.mk (Kd.R_below (R_ HO300.out) hb); replace HO303 := Aside0.mk (Kd.R_below (R_ HO303.out) hb); replace HO307 := Aside0.mk (Kd.R_below (R_ HO307.out) hb); replace HO310 := Aside0.mk (Kd.R_below (Kd.R_elderB (R_ HO310.out) gb329 (Nat.le_of_eq hg.symm)) hb); replace HO317 := Aside0.mk (Kd.R_below (R_ HO317.out) hb); replace HO320 := Aside0.mk (Kd.R_below (R_ HO320.out) hb); replace HO325 := Aside0.mk (Kd.R_below (R_ HO325.out) hb); replace HO328 := Aside0.mk (Kd.R_below (Kd.R_elderB (R_ HO328.out) gb329 (Nat.le_of_eq hg.symm)) hb); have BK329 := Aside0.mk (hbox); have GW329 := Aside0.mk ((by rw [hg]; exact (below_size (B3_ HB.out GE291.out GE292.out GE321.out)) : w.heap.size ≤ gb329)); have GE329 := Aside0.mk ((by rw [hg]; exact (below_size (B3_ HB.out GE291.out GE292.out GE321.out)) : w.heap.size ≤ gb329)); replace HB := Aside0.mk (below_step (B3_ HB.out GE291.out GE292.out GE321.out) hb); have NB291_329 := Aside0.mk ((by rw [hg]; exact Nat.ne_of_lt (blk_lt (K_ BK291.out)) : gb291 ≠ gb329)); have NB329_291 := Aside0.mk ((by rw [hg]; exact Nat.ne_of_gt (blk_lt (K_ BK291.out)) : gb329 ≠ gb291)); replace BK291 := Aside0.mk (blk_below (K_ BK291.out) hb); have NB292_329 := Aside0.mk ((by rw [hg]; exact Nat.ne_of_lt (blk_lt (K_ BK292.out)) : gb292 ≠ gb329)); have NB329_292 := Aside0.mk ((by rw [hg]; exact Nat.ne_of_gt (blk_lt (K_ BK292.out)) : gb329 ≠ gb292)); replace BK292 := Aside0.mk (blk_below (K_ BK292.out) hb); have NB321_329 := Aside0.mk ((by rw [hg]; exact Nat.ne_of_lt (blk_lt (K_ BK321.out)) : gb321 ≠ gb329)); have NB329_321 := Aside0.mk ((by rw [hg]; exact Nat.ne_of_gt (blk_lt (K_ BK321.out)) : gb329 ≠ gb321)); replace BK321 := Aside0.mk (blk_below (K_ BK321.out) hb); clear hb hbox hg; have hnb44 := NB329_291.out; have hnc44 := NB291_329.out; have hnb45 := NB329_292.out; have hnc45 := NB292_329.out; have hnb46 := NB329_321.out; have hnc46 := NB321_329.out; obtain ⟨hcz47_0, hcz47_1, hcz47_2, hfz47_0, hfz47_1, hfz47_2⟩ := box3_ BK329.out; obtain ⟨Ao48, co48, eo48⟩ := Kd.R_slice HO325.out; subst eo48; obtain ⟨Ao49, co49, eo49⟩ := Kd.R_slice HO328.out; subst eo49; obtain ⟨hcz50_0, hcz50_1, hcz50_2, hcz50_3, hcz50_4, hfz50_0, hfz50_1, hfz50_2, hfz50_3, hfz50_4⟩ := box5_ BK321.out) | ((with_reducible refine gate_callee (f := 32) rfl ?_); refine goesL_ (some 31) rfl rfl Try.func32 (by kernel_rfl) rfl #[.agg #[.int .i64 t312, .int .i64 t313, .string t314, .slice Ao39 t315.length co39, .slice Ao40 t318.length co40], .agg #[.int .i64 t322, .slice Ao48 t323.length co48, .slice Ao49 t326.length co49]] rfl ma_ ?_; (with_reducible refine (impl_HasType.calls k t312 t313 t314 _ _ t315 _ _ t318 t322 _ _ t323 _ _ t326 t330 _ ?side1 ?side2 ?side3 ?side4 ?side5 ?side6 ?side7 ?side8 A22.out).mono ?_); (case side1 => refine (Kd.R_reads' (e := 9) (base := w.heap.size) (ok := fun k_ => (((True ∧ some k_ ≠ (.slice Ao27 t298.length co27 : Value).ownBlock) ∧ some k_ ≠ (.slice Ao29 t305.length co29 : Value).ownBlock) ∧ some k_ ≠ (.slice Ao48 t323.length co48 : Value).ownBlock)) (n := t315.length) (c := co39) ?_).2.2; exact (by (with_reducible repeat (first | apply Kd.R_alloc | apply Kd.R_drewN | apply Kd.R_drew)); exact (Kd.R_mono (Kd.R_far (p := ⟨gb329, 2, none⟩) (Kd.R_far (p := ⟨gb329, 1, none⟩) (Kd.R_far (p := ⟨gb329, 0, none⟩) (Kd.R_types HO317.out BK329.out (by decide)) (fun _ hk => hk.2) (.int .i64 t322)) (fun _ hk => hk.2) (.slice Ao48 t323.length co48)) (fun _ hk => hk.2) (.slice Ao49 t326.length co49)) (fun _ h_ => h_.1)))); (case side2 => exact (Kd.R_reads' HO317.out).2.1); (case side3 => refine (Kd.R_reads' (e := 30) (base := w.heap.size) (ok := fun k_ => (((((some k_ ≠ (.slice Ao39 t315.length co39 : Value).ownBlock ∧ some k_ ≠ (.slice Ao27 t298.length co27 : Value).ownBlock) ∧ some k_ ≠ (.slice Ao28 t301.length co28 : Value).ownBlock) ∧ some k_ ≠ (.slice Ao29 t305.length co29 : Value).ownBlock) ∧ k_ ≠ gb321) ∧ some k_ ≠ (.slice Ao48 t323.length co48 : Value).ownBlock)) (n := t318.length) (c := co40) ?_).2.2; exact (by (with_reducible repeat (first | apply Kd.R_alloc | apply Kd.R_drewN | apply Kd.R_drew)); exact (Kd.R_mono (Kd.R_far (p := ⟨gb329, 2, none⟩) (Kd.R_far (p := ⟨gb329, 1, none⟩) (Kd.R_far (p := ⟨gb329, 0, none⟩) (Kd.R_types HO320.out BK329.out (by decide)) (fun _ hk => hk.2) (.int .i64 t322)) (fun _ hk => hk.2) (.slice Ao48 t323.length co48)) (fun _ hk => hk.2) (.slice Ao49 t326.length co49)) (fun _ h_ => h_.1)))); (case side4 => exact (Kd.R_reads' HO320.out).2.1); (case side5 => refine (Kd.R_reads' (e := 9) (base := w.heap.size) (ok := fun k_ => (((True ∧ some k_ ≠ (.slice Ao27 t298.length co27 : Value).ownBlock) ∧ some k_ ≠ (.slice Ao29 t305.length co29 : Value).ownBlock) ∧ some k_ ≠ (.slice Ao39 t315.length co39 : Value).ownBlock)) (n := t323.length) (c := co48) ?_).2.2; exact (by (with_reducible repeat (first | apply Kd.R_alloc | apply Kd.R_drewN | apply Kd.R_drew)); exact (Kd.R_mono (Kd.R_far (p := ⟨gb329, 2, none⟩) (Kd.R_far (p := ⟨gb329, 1, none⟩) (Kd.R_far (p := ⟨gb329, 0, none⟩) (Kd.R_types HO325.out BK329.out (by decide)) (fun _ hk => hk.2) (.int .i64 t322)) (fun _ hk => hk.2) (.slice Ao48 t323.length co48)) (fun _ hk => hk.2) (.slice Ao49 t326.length co49)) (fun _ h_ => h_.1)))); (case side6 => exact (Kd.R_reads' HO325.out).2.1); (case side7 => refine (Kd.R_reads' (e := 44) (base := w.heap.size) (ok := fun k_ => (((((some k_ ≠ (.slice Ao48 t323.length co48 : Value).ownBlock ∧ some k_ ≠ (.slice Ao27 t298.length co27 : Value).ownBlock) ∧ some k_ ≠ (.slice Ao29 t305.length co29 : Value).ownBlock) ∧ some k_ ≠ (.slice Ao30 t308.length co30 : Value).ownBlock) ∧ some k_ ≠ (.slice Ao39 t315.length co39 : Value).ownBlock) ∧ k_ ≠ gb329)) (n := t326.length) (c := co49) ?_).2.2; exact (by (with_reducible repeat (first | apply Kd.R_alloc | apply Kd.R_drewN | apply Kd.R_drew)); exact (Kd.R_mono (Kd.R_far (p := ⟨gb329, 2, none⟩) (Kd.R_far (p := ⟨gb329, 1, none⟩) (Kd.R_far (p := ⟨gb329, 0, none⟩) (Kd.R_mono HO328.out (fun k_ hk => (⟨hk, hk.2⟩ : _ ∧ k_ ≠ gb329))) (fun _ hk => hk.2) (.int .i64 t322)) (fun _ hk => hk.2) (.slice Ao48 t323.length co48)) (fun _ hk => hk.2) (.slice Ao49 t326.length co49)) (fun _ h_ => h_.1)))); (case side8 => exact (Kd.R_reads' HO328.out).2.1); rintro e w51 ⟨rfl, hb⟩; refine ⟨_, rfl, ?_⟩; replace HO300 := Aside0.mk (Kd.R_below (by (with_reducible repeat (first | apply Kd.R_alloc | apply Kd.R_drewN | apply Kd.R_drew)); exact (Kd.R_mono (Kd.R_far (p := ⟨gb329, 2, none⟩) (Kd.R_far (p := ⟨gb329, 1, none⟩) (Kd.R_far (p := ⟨gb329, 0, none⟩) (Kd.R_types HO300.out BK329.out (by decide)) (fun _ hk => hk.2) (.int .i64 t322)) (fun _ hk => hk.2) (.slice Ao48 t323.length co48)) (fun _ hk => hk.2) (.slice Ao49 t326.length co49)) (fun _ h_ => h_.1))) hb); replace HO303 := Aside0.mk (Kd.R_below (by (with_reducible repeat (first | apply Kd.R_alloc | apply Kd.R_drewN | apply Kd.R_drew)); exact (Kd.R_mono (Kd.R_far (p := ⟨gb329, 2, none⟩) (Kd.R_far (p := ⟨gb329, 1, none⟩) (Kd.R_far (p := ⟨gb329, 0, none⟩) (Kd.R_types HO303.out BK329.out (by decide)) (fun _ hk => hk.2) (.int .i64 t322)) (fun _ hk => hk.2) (.slice Ao48 t323.length co48)) (fun _ hk => hk.2) (.slice Ao49 t326.length co49)) (fun _ h_ => h_.1))) hb); replace HO307 := Aside0.mk (Kd.R_below (by (with_reducible repeat (first | apply Kd.R_alloc | apply Kd.R_drewN | apply Kd.R_drew)); exact (Kd.R_mono (Kd.R_far (p := ⟨gb329, 2, none⟩) (Kd.R_far (p := ⟨gb329, 1, none⟩) (Kd.R_far (p := ⟨gb329, 0, none⟩) (Kd.R_types HO307.out BK329.out (by decide)) (fun _ hk => hk.2) (.int .i64 t322)) (fun _ hk => hk.2) (.slice Ao48 t323.length co48)) (fun _ hk => hk.2) (.slice Ao49 t326.length co49)) (fun _ h_ => h_.1))) hb); replace HO310 := Aside0.mk (Kd.R_below (by (with_reducible repeat (first | apply Kd.R_alloc | apply Kd.R_drewN | apply Kd.R_drew)); exact (Kd.R_mono (Kd.R_far (p := ⟨gb329, 2, none⟩) (Kd.R_far (p := ⟨gb329, 1, none⟩) (Kd.R_far (p := ⟨gb329, 0, none⟩) (Kd.R_mono HO310.out (fun k_ hk => (⟨hk, hk.2⟩ : _ ∧ k_ ≠ gb329))) (fun _ hk => hk.2) (.int .i64 t322)) (fun _ hk => hk.2) (.slice Ao48 t323.length co48)) (fun _ hk => hk.2) (.slice Ao49 t326.length co49)) (fun _ h_ => h_.1))) hb); replace HO317 := Aside0.mk (Kd.R_below (by (with_reducible repeat (first | apply Kd.R_alloc | apply Kd.R_drewN | apply Kd.R_drew)); exact (Kd.R_mono (Kd.R_far (p := ⟨gb329, 2, none⟩) (Kd.R_far (p := ⟨gb329, 1, none⟩) (Kd.R_far (p := ⟨gb329, 0, none⟩) (Kd.R_types HO317.out BK329.out (by decide)) (fun _ hk => hk.2) (.int .i64 t322)) (fun _ hk => hk.2) (.slice Ao48 t323.length co48)) (fun _ hk => hk.2) (.slice Ao49 t326.length co49)) (fun _ h_ => h_.1))) hb); replace HO320 := Aside0.mk (Kd.R_below (by (with_reducible repeat (first | apply Kd.R_alloc | apply Kd.R_drewN | apply Kd.R_drew)); exact (Kd.R_mono (Kd.R_far (p := ⟨gb329, 2, none⟩) (Kd.R_far (p := ⟨gb329, 1, none⟩) (Kd.R_far (p := ⟨gb329, 0, none⟩) (Kd.R_types HO320.out BK329.out (by decide)) (fun _ hk => hk.2) (.int .i64 t322)) (fun _ hk => hk.2) (.slice Ao48 t323.length co48)) (fun _ hk => hk.2) (.slice Ao49 t326.length co49)) (fun _ h_ => h_.1))) hb); replace HO325 := Aside0.mk (Kd.R_below (by (with_reducible repeat (first | apply Kd.R_alloc | apply Kd.R_drewN | apply Kd.R_drew)); exact (Kd.R_mono (Kd.R_far (p := ⟨gb329, 2, none⟩) (Kd.R_far (p := ⟨gb329, 1, none⟩) (Kd.R_far (p := ⟨gb329, 0, none⟩) (Kd.R_types HO325.out BK329.out (by decide)) (fun _ hk => hk.2) (.int .i64 t322)) (fun _ hk => hk.2) (.slice Ao48 t323.length co48)) (fun _ hk => hk.2) (.slice Ao49 t326.length co49)) (fun _ h_ => h_.1))) hb); replace HO328 := Aside0.mk (Kd.R_below (by (with_reducible repeat (first | apply Kd.R_alloc | apply Kd.R_drewN | apply Kd.R_drew)); exact (Kd.R_mono (Kd.R_far (p := ⟨gb329, 2, none⟩) (Kd.R_far (p := ⟨gb329, 1, none⟩) (Kd.R_far (p := ⟨gb329, 0, none⟩) (Kd.R_mono HO328.out (fun k_ hk => (⟨hk, hk.2⟩ : _ ∧ k_ ≠ gb329))) (fun _ hk => hk.2) (.int .i64 t322)) (fun _ hk => hk.2) (.slice Ao48 t323.length co48)) (fun _ hk => hk.2) (.slice Ao49 t326.length co49)) (fun _ h_ => h_.1))) hb); replace BK291 := Aside0.mk (blk_below (g := gb291) (o := .cells #[.int .i64 a0_0, .int .i64 a0_1, .string a0_2, .slice A0_3 l0_3.length c0_3, .slice A0_4 l0_4.length c0_4] 25 (0, 0)) (by (with_reducible repeat (first | refine blk_drewN ?_ _ | refine blk_drew ?_ | refine blk_alloc ?_ _)); refine blk_far ?_ NB291_329.out _; (with_reducible repeat (first | refine blk_drewN ?_ _ | refine blk_drew ?_ | refine blk_alloc ?_ _)); refine blk_far ?_ NB291_329.out _; (with_reducible repeat (first | refine blk_drewN ?_ _ | refine blk_drew ?_ | refine blk_alloc ?_ _)); refine blk_far ?_ NB291_329.out _; (with_reducible repeat (first | refine blk_drewN ?_ _ | refine blk_drew ?_ | refine blk_alloc ?_ _)); exact BK291.out) hb); replace BK292 := Aside0.mk (blk_below (g := gb292) (o := .cells #[.int .i64 a1_0, .slice A1_1 l1_1.length c1_1, .slice A1_2 l1_2.length c1_2] 39 (0, 0)) (by (with_reducible repeat (first | refine blk_drewN ?_ _ | refine blk_drew ?_ | refine blk_alloc ?_ _)); refine blk_far ?_ NB292_329.out _; (with_reducible repeat (first | refine blk_drewN ?_ _ | refine blk_drew ?_ | refine blk_alloc ?_ _)); refine blk_far ?_ NB292_329.out _; (with_reducible repeat (first | refine blk_drewN ?_ _ | refine blk_drew ?_ | refine blk_alloc ?_ _)); refine blk_far ?_ NB292_329.out _; (with_reducible repeat (first | refine blk_drewN ?_ _ | refine blk_drew ?_ | refine blk_alloc ?_ _)); exact BK292.out) hb); replace BK321 := Aside0.mk (blk_below (g := gb321) (o := .cells #[.int .i64 t312, .int .i64 t313, .string t314, .slice Ao39 t315.length co39, .slice Ao40 t318.length co40] 30 (0, 0)) (by (with_reducible repeat (first | refine blk_drewN ?_ _ | refine blk_drew ?_ | refine blk_alloc ?_ _)); refine blk_far ?_ NB321_329.out _; (with_reducible repeat (first | refine blk_drewN ?_ _ | refine blk_drew ?_ | refine blk_alloc ?_ _)); refine blk_far ?_ NB321_329.out _; (with_reducible repeat (first | refine blk_drewN ?_ _ | refine blk_drew ?_ | refine blk_alloc ?_ _)); refine blk_far ?_ NB321_329.out _; (with_reducible repeat (first | refine blk_drewN ?_ _ | refine blk_drew ?_ | refine blk_alloc ?_ _)); exact BK321.out) hb); replace BK329 := Aside0.mk (blk_below (g := gb329) (o := .cells #[.int .i64 t322, .slice Ao48 t323.length co48, .slice Ao49 t326.length co49] 44 (0, 0)) (by (with_reducible repeat (first | refine blk_drewN ?_ _ | refine blk_drew ?_ | refine blk_alloc ?_ _)); refine blk_put (cs := #[.int .i64 t322, .slice Ao48 t323.length co48, .slice none 0 0]) ?_ 2 _ rfl; (with_reducible repeat (first | refine blk_drewN ?_ _ | refine blk_drew ?_ | refine blk_alloc ?_ _)); refine blk_put (cs := #[.int .i64 t322, .slice none 0 0, .slice none 0 0]) ?_ 1 _ rfl; (with_reducible repeat (first | refine blk_drewN ?_ _ | refine blk_drew ?_ | refine blk_alloc ?_ _)); refine blk_put (cs := #[.int .i64 0, .slice none 0 0, .slice none 0 0]) ?_ 0 _ rfl; (with_reducible repeat (first | refine blk_drewN ?_ _ | refine blk_drew ?_ | refine blk_alloc ?_ _)); exact BK329.out) hb); replace HB := Aside0.mk (below_step (by repeat (first | (with_reducible first | exact HB.out | apply below_alloc | apply pw_below_drewN | apply below_drew1 | refine below_set ?_ GE291.out | refine below_set ?_ GE292.out | refine below_set ?_ GE321.out | refine below_set ?_ GE329.out) | exact HB.out)) hb); (try clear hb); (try clear hb2); (try clear hk); (try clear hi)))
   (try simp only [Act.put, List.setIfInBounds_toArray, List.set_cons_zero, List.set_cons_succ])
   have H := HC23.out
   clear HC23
   by_cases c52 : (t330 != t311) = true
   ·rw [if_pos c52] at H
    have c52b0 : (t330 != t311) = true := c52
    (try (have c52b1 : decide (t330 = t311) = false := by simpa using c52))
    (try (have c52b2 : (t330 == t311) = false := by simpa using c52))
    (try (have c52b3 : ¬ (t330 = t311) := by simpa using c52))
    clear c52
    (first | rw [c52b0] | (simp only [i64_w, i32_w]; rw [c52b0]) | (rw [c52b2]; simp only [Bool.not_true, Bool.not_false]) | skip)
    obtain rfl := Option.some.inj H
    go_wp2
    go_ret
    exact ⟨er_, by repeat (first | (with_reducible first | exact HB.out | apply below_alloc | apply pw_below_drewN | apply below_drew1 | refine below_set ?_ GE291.out | refine below_set ?_ GE292.out | refine below_set ?_ GE321.out | refine below_set ?_ GE329.out) | exact HB.out)⟩
   ·rw [if_neg c52] at H
    have c52b0 : (t330 != t311) = false := by simpa using c52
    (try (have c52b1 : decide (t330 = t311) = true := by simpa using c52))
    (try (have c52b2 : (t330 == t311) = true := by simpa using c52))
    clear c52
    (first | rw [c52b0] | (simp only [i64_w, i32_w]; rw [c52b0]) | (rw [c52b2]; simp only [Bool.not_true, Bool.not_false]) | skip)
    replace H := Option.bind_eq_some_iff.mp H
    obtain ⟨⟨t331, t332, t333, t334, t337⟩, A530, H⟩ := H
    replace H : ((laws_eqValue.f k t312 t313 t314 t315 t318 t331 t332 t333 t334 t337).bind fun t340 => (if t340 = true then ((laws_toType.f k a1_0 l1_1 l1_2).bind fun bt341 => ((laws_eqType.f k t322 t323 t326 bt341.1 bt341.2.1 bt341.2.2).bind fun t348 => (if t348 = true then (some true) else (some false)))) else (some false))) = some r := H
    have A53 := Aside0.mk A530
    clear A530
    replace H := Option.bind_eq_some_iff.mp H
    obtain ⟨t340, A540, H⟩ := H
    replace H : (if t340 = true then ((laws_toType.f k a1_0 l1_1 l1_2).bind fun bt341 => ((laws_eqType.f k t322 t323 t326 bt341.1 bt341.2.1 bt341.2.2).bind fun t348 => (if t348 = true then (some true) else (some false)))) else (some false)) = some r := H
    have A54 := Aside0.mk A540
    clear A540
    have HC55 := Aside0.mk H
    clear H
    try go_wp2
    replace HO300 := Aside0.mk (Kd.R_drew HO300.out)
    replace HO303 := Aside0.mk (Kd.R_drew HO303.out)
    replace HO307 := Aside0.mk (Kd.R_drew HO307.out)
    replace HO310 := Aside0.mk (Kd.R_drew HO310.out)
    replace HO317 := Aside0.mk (Kd.R_drew HO317.out)
    replace HO320 := Aside0.mk (Kd.R_drew HO320.out)
    replace HO325 := Aside0.mk (Kd.R_drew HO325.out)
    replace HO328 := Aside0.mk (Kd.R_drew HO328.out)
    replace BK291 := Aside0.mk (blk_drew BK291.out)
    replace BK292 := Aside0.mk (blk_drew BK292.out)
    replace BK321 := Aside0.mk (blk_drew BK321.out)
    replace BK329 := Aside0.mk (blk_drew BK329.out)
    replace HB := Aside0.mk (below_drew1 HB.out)
    refine start_ (n := 5) (S := fun w' => w'.cell? ⟨gb321, 0, none⟩ = some (.int .i64 t312) ∧ w'.cell? ⟨gb321, 1, none⟩ = some (.int .i64 t313) ∧ w'.cell? ⟨gb321, 2, none⟩ = some (.string t314) ∧ w'.cell? ⟨gb321, 3, none⟩ = some (.slice Ao39 t315.length co39) ∧ w'.cell? ⟨gb321, 4, none⟩ = some (.slice Ao40 t318.length co40) ∧ w'.cell? ⟨gb291, 0, none⟩ = some (.int .i64 a0_0) ∧ w'.cell? ⟨gb291, 1, none⟩ = some (.int .i64 a0_1) ∧ w'.cell? ⟨gb291, 2, none⟩ = some (.string a0_2) ∧ w'.cell? ⟨gb291, 3, none⟩ = some (.slice A0_3 l0_3.length c0_3) ∧ w'.cell? ⟨gb291, 4, none⟩ = some (.slice A0_4 l0_4.length c0_4)) (ds := []) #[false, false, false, false, false] (by kernel_rfl) rfl rfl ⟨(blk_cell BK321.out 0).trans rfl, (blk_cell BK321.out 1).trans rfl, (blk_cell BK321.out 2).trans rfl, (blk_cell BK321.out 3).trans rfl, (blk_cell BK321.out 4).trans rfl, (blk_cell BK291.out 0).trans rfl, (blk_cell BK291.out 1).trans rfl, (blk_cell BK291.out 2).trans rfl, (blk_cell BK291.out 3).trans rfl, (blk_cell BK291.out 4).trans rfl⟩ (fun hHeld => ?_)
    generalize w51.drew = w56 at HO300 HO303 HO307 HO310 HO317 HO320 HO325 HO328 BK291 BK292 BK321 BK329 HB hHeld ⊢
    refine take_ (i := 0) (N := some 35) (v := ?_) (a' := ?_) #[true, false, false, false, false] rfl rfl (by kernel_rfl) (fun _ _ _ h => h) (Or.inl ⟨by rfl, ?_⟩) hHeld ?_ ?_
    rotate_left
    ·rintro w' ⟨s0, s1, s2, s3, s4, s5, s6, s7, s8, s9⟩
     go_simp
     with_reducible rfl
    rotate_left
    ·simp only [Act.put, List.setIfInBounds_toArray, List.set_cons_zero, List.set_cons_succ, i64_w, i32_w]
     rfl
    refine take_ (i := 1) (N := some 36) (v := ?_) (a' := ?_) #[true, true, false, false, false] rfl rfl (by kernel_rfl) (fun _ _ _ h => h) (Or.inl ⟨by rfl, ?_⟩) hHeld ?_ ?_
    rotate_left
    ·rintro w' ⟨s0, s1, s2, s3, s4, s5, s6, s7, s8, s9⟩
     go_simp
     with_reducible rfl
    rotate_left
    ·simp only [Act.put, List.setIfInBounds_toArray, List.set_cons_zero, List.set_cons_succ, i64_w, i32_w]
     rfl
    refine one_ (i := 2) (N := some 37) #[true, true, true, false, false] rfl rfl (by kernel_rfl) (by decide) (fun K hK => ?_)
    refine goes_ Try.func14 (by kernel_rfl) rfl #[.agg #[.int .i64 a0_0, .int .i64 a0_1, .string a0_2, .slice A0_3 l0_3.length c0_3, .slice A0_4 l0_4.length c0_4]] (by rfl) rfl rfl ma_ ?_
    with_reducible refine (laws_toValue.calls k a0_0 a0_1 a0_2 _ _ l0_3 _ _ l0_4 t331 t332 t333 t334 t337 _ ?side1 ?side2 ?side3 ?side4 A53.out).mono ?_
    (case side1 => exact C_ (Kd.C_below HR0_3.out HB.out))
    (case side2 => exact HC0_3.out)
    (case side3 => exact C_ (Kd.C_below HR0_4.out HB.out))
    (case side4 => exact HC0_4.out)
    rintro e w57 ⟨v335, v338, rfl, ho0, ho1, hb⟩
    refine ⟨_, rfl, ?_⟩
    replace HO310 := Aside0.mk (Kd.R_elder' (R_ HO310.out) (Kd.R_base ho0) hb)
    replace HO328 := Aside0.mk (Kd.R_elder' (R_ HO328.out) (Kd.R_base ho0) hb)
    have HO336 := Aside0.mk (Kd.R_lower (Kd.R_new' (Kd.R_new' (Kd.R_new' (Kd.R_new' ho0 (Kd.R_lt (R_ HO300.out))) (Kd.R_lt (R_ HO307.out))) (Kd.R_lt (R_ HO317.out))) (Kd.R_lt (R_ HO325.out))) (below_size (by repeat (first | (with_reducible first | exact HB.out | apply below_alloc | apply pw_below_drewN | apply below_drew1 | refine below_set ?_ GE291.out | refine below_set ?_ GE292.out | refine below_set ?_ GE321.out | refine below_set ?_ GE329.out) | exact HB.out))))
    have HO339 := Aside0.mk (Kd.R_lower (Kd.R_newB (Kd.R_new' (Kd.R_new' (Kd.R_new' (Kd.R_new' (Kd.R_new' (Kd.R_new' ho1 (Kd.R_lt (R_ HO300.out))) (Kd.R_lt (R_ HO303.out))) (Kd.R_lt (R_ HO307.out))) (Kd.R_lt (R_ HO317.out))) (Kd.R_lt (R_ HO320.out))) (Kd.R_lt (R_ HO325.out))) (g := gb321) (o := .cells #[.int .i64 t312, .int .i64 t313, .string t314, .slice Ao39 t315.length co39, .slice Ao40 t318.length co40] 30 (0, 0)) (K_ BK321.out)) (below_size (by repeat (first | (with_reducible first | exact HB.out | apply below_alloc | apply pw_below_drewN | apply below_drew1 | refine below_set ?_ GE291.out | refine below_set ?_ GE292.out | refine below_set ?_ GE321.out | refine below_set ?_ GE329.out) | exact HB.out))))
    replace HO300 := Aside0.mk (Kd.R_elder' (R_ HO300.out) (Kd.R_base ho0) hb)
    replace HO303 := Aside0.mk (Kd.R_mono (Kd.R_told (Kd.R_told (Kd.R_old (R_ HO303.out) hb) (Kd.R_base ho0)) (Kd.R_base ho1)) (fun _ h_ => h_.1))
    replace HO307 := Aside0.mk (Kd.R_elder' (R_ HO307.out) (Kd.R_base ho0) hb)
    replace HO317 := Aside0.mk (Kd.R_elder' (R_ HO317.out) (Kd.R_base ho0) hb)
    replace HO320 := Aside0.mk (Kd.R_mono (Kd.R_told (Kd.R_told (Kd.R_old (R_ HO320.out) hb) (Kd.R_base ho0)) (Kd.R_base ho1)) (fun _ h_ => h_.1))
    replace HO325 := Aside0.mk (Kd.R_elder' (R_ HO325.out) (Kd.R_base ho0) hb)
    replace BK291 := Aside0.mk (blk_below (K_ BK291.out) hb)
    replace BK292 := Aside0.mk (blk_below (K_ BK292.out) hb)
    replace BK321 := Aside0.mk (blk_below (K_ BK321.out) hb)
    replace BK329 := Aside0.mk (blk_below (K_ BK329.out) hb)
    replace HB := Aside0.mk (below_step (by repeat (first | (with_reducible first | exact HB.out | apply below_alloc | apply pw_below_drewN | apply below_drew1 | refine below_set ?_ GE291.out | refine below_set ?_ GE292.out | refine below_set ?_ GE321.out | refine below_set ?_ GE329.out) | exact HB.out)) hb)
    (try clear hb)
    (try clear hb2)
    (try clear hk)
    (try clear hi)
    (try clear ho0)
    (try clear ho1)
    obtain ⟨Ao58, co58, eo58⟩ := Kd.R_slice HO336.out
    (first | subst eo58 | (injection eo58 with f1_ f2_ f3_; have f4_ := f1_.symm; have f5_ := f3_.symm; clear f1_ f2_ f3_; subst f4_; subst f5_))
    obtain ⟨Ao59, co59, eo59⟩ := Kd.R_slice HO339.out
    (first | subst eo59 | (injection eo59 with f1_ f2_ f3_; have f4_ := f1_.symm; have f5_ := f3_.symm; clear f1_ f2_ f3_; subst f4_; subst f5_))
    refine hK.out _ _ ⟨(blk_cell BK321.out 0).trans rfl, (blk_cell BK321.out 1).trans rfl, (blk_cell BK321.out 2).trans rfl, (blk_cell BK321.out 3).trans rfl, (blk_cell BK321.out 4).trans rfl, (blk_cell BK291.out 0).trans rfl, (blk_cell BK291.out 1).trans rfl, (blk_cell BK291.out 2).trans rfl, (blk_cell BK291.out 3).trans rfl, (blk_cell BK291.out 4).trans rfl⟩ (fun hHeld => ?_)
    clear hK K
    refine norm_ (a' := ?_) ?_ ?_
    rotate_left
    ·show Act.put _ (some 37) _ = _
     simp only [Act.put, List.setIfInBounds_toArray, List.set_cons_zero, List.set_cons_succ, i64_w, i32_w]
     rfl
    refine one_ (i := 3) (N := some 38) #[true, true, true, true, false] rfl rfl (by kernel_rfl) (by decide) (fun K hK => ?_)
    refine goes_ Try.func16 (by kernel_rfl) rfl #[.agg #[.int .i64 t312, .int .i64 t313, .string t314, .slice Ao39 t315.length co39, .slice Ao40 t318.length co40], .agg #[.int .i64 t331, .int .i64 t332, .string t333, .slice Ao58 t334.length co58, .slice Ao59 t337.length co59]] (by rfl) rfl rfl ma_ ?_
    with_reducible refine (laws_eqValue.calls k t312 t313 t314 _ _ t315 _ _ t318 t331 t332 t333 _ _ t334 _ _ t337 t340 _ ?side1 ?side2 ?side3 ?side4 ?side5 ?side6 ?side7 ?side8 A54.out).mono ?_
    (case side1 => exact C_ (Kd.R_reads' HO317.out).2.2)
    (case side2 => exact (Kd.R_reads' HO317.out).2.1)
    (case side3 => exact C_ (Kd.R_reads' HO320.out).2.2)
    (case side4 => exact (Kd.R_reads' HO320.out).2.1)
    (case side5 => exact C_ (Kd.R_reads' HO336.out).2.2)
    (case side6 => exact (Kd.R_reads' HO336.out).2.1)
    (case side7 => exact C_ (Kd.R_reads' HO339.out).2.2)
    (case side8 => exact (Kd.R_reads' HO339.out).2.1)
    rintro e w60 ⟨rfl, hb⟩
    refine ⟨_, rfl, ?_⟩
    replace HO300 := Aside0.mk (Kd.R_below (R_ HO300.out) hb)
    replace HO303 := Aside0.mk (Kd.R_below (R_ HO303.out) hb)
    replace HO307 := Aside0.mk (Kd.R_below (R_ HO307.out) hb)
    replace HO310 := Aside0.mk (Kd.R_below (R_ HO310.out) hb)
    replace HO317 := Aside0.mk (Kd.R_below (R_ HO317.out) hb)
    replace HO320 := Aside0.mk (Kd.R_below (R_ HO320.out) hb)
    replace HO325 := Aside0.mk (Kd.R_below (R_ HO325.out) hb)
    replace HO328 := Aside0.mk (Kd.R_below (R_ HO328.out) hb)
    replace HO336 := Aside0.mk (Kd.R_below (R_ HO336.out) hb)
    replace HO339 := Aside0.mk (Kd.R_below (R_ HO339.out) hb)
    replace BK291 := Aside0.mk (blk_below (K_ BK291.out) hb)
    replace BK292 := Aside0.mk (blk_below (K_ BK292.out) hb)
    replace BK321 := Aside0.mk (blk_below (K_ BK321.out) hb)
    replace BK329 := Aside0.mk (blk_below (K_ BK329.out) hb)
    replace HB := Aside0.mk (below_step (by repeat (first | (with_reducible first | exact HB.out | apply below_alloc | apply pw_below_drewN | apply below_drew1 | refine below_set ?_ GE291.out | refine below_set ?_ GE292.out | refine below_set ?_ GE321.out | refine below_set ?_ GE329.out) | exact HB.out)) hb)
    (try clear hb)
    (try clear hb2)
    (try clear hk)
    (try clear hi)
    refine hK.out _ _ ⟨(blk_cell BK321.out 0).trans rfl, (blk_cell BK321.out 1).trans rfl, (blk_cell BK321.out 2).trans rfl, (blk_cell BK321.out 3).trans rfl, (blk_cell BK321.out 4).trans rfl, (blk_cell BK291.out 0).trans rfl, (blk_cell BK291.out 1).trans rfl, (blk_cell BK291.out 2).trans rfl, (blk_cell BK291.out 3).trans rfl, (blk_cell BK291.out 4).trans rfl⟩ (fun hHeld => ?_)
    clear hK K
    refine norm_ (a' := ?_) ?_ ?_
    rotate_left
    ·show Act.put _ (some 38) _ = _
     simp only [Act.put, List.setIfInBounds_toArray, List.set_cons_zero, List.set_cons_succ, i64_w, i32_w]
     rfl
    refine pure_ (i := 4) (N := some 39) (v := ?_) (a' := ?_) #[true, true, true, true, true] rfl rfl (by kernel_rfl) (fun _ _ _ h => h) (Or.inl ⟨by rfl, ?_⟩) ?_ ?_
    rotate_left
    ·intro w'
     go_simp
     with_reducible rfl
    rotate_left
    ·simp only [Act.put, List.setIfInBounds_toArray, List.set_cons_zero, List.set_cons_succ, i64_w, i32_w]
     rfl
    refine done_ (by kernel_rfl) ?_
    go_upto_if 39 with (fail)
    have H := HC55.out
    clear HC55
    by_cases c61 : t340 = true
    ·subst c61
     have H1 : ((laws_toType.f k a1_0 l1_1 l1_2).bind fun bt341 => ((laws_eqType.f k t322 t323 t326 bt341.1 bt341.2.1 bt341.2.2).bind fun t348 => (if t348 = true then (some true) else (some false)))) = some r := by rw [if_pos rfl] at H; exact H
     clear H
     have H := H1
     clear H1
     replace H := Option.bind_eq_some_iff.mp H
     obtain ⟨⟨t341, t342, t345⟩, A620, H⟩ := H
     replace H : ((laws_eqType.f k t322 t323 t326 t341 t342 t345).bind fun t348 => (if t348 = true then (some true) else (some false))) = some r := H
     have A62 := Aside0.mk A620
     clear A620
     replace H := Option.bind_eq_some_iff.mp H
     obtain ⟨t348, A630, H⟩ := H
     replace H : (if t348 = true then (some true) else (some false)) = some r := H
     have A63 := Aside0.mk A630
     clear A630
     have HC64 := Aside0.mk H
     clear H
     try go_wp2
     replace HO300 := Aside0.mk (Kd.R_drew HO300.out)
     replace HO303 := Aside0.mk (Kd.R_drew HO303.out)
     replace HO307 := Aside0.mk (Kd.R_drew HO307.out)
     replace HO310 := Aside0.mk (Kd.R_drew HO310.out)
     replace HO317 := Aside0.mk (Kd.R_drew HO317.out)
     replace HO320 := Aside0.mk (Kd.R_drew HO320.out)
     replace HO325 := Aside0.mk (Kd.R_drew HO325.out)
     replace HO328 := Aside0.mk (Kd.R_drew HO328.out)
     replace HO336 := Aside0.mk (Kd.R_drew HO336.out)
     replace HO339 := Aside0.mk (Kd.R_drew HO339.out)
     replace BK291 := Aside0.mk (blk_drew BK291.out)
     replace BK292 := Aside0.mk (blk_drew BK292.out)
     replace BK321 := Aside0.mk (blk_drew BK321.out)
     replace BK329 := Aside0.mk (blk_drew BK329.out)
     replace HB := Aside0.mk (below_drew1 HB.out)
     refine start_ (n := 5) (S := fun w' => w'.cell? ⟨gb329, 0, none⟩ = some (.int .i64 t322) ∧ w'.cell? ⟨gb329, 1, none⟩ = some (.slice Ao48 t323.length co48) ∧ w'.cell? ⟨gb329, 2, none⟩ = some (.slice Ao49 t326.length co49) ∧ w'.cell? ⟨gb292, 0, none⟩ = some (.int .i64 a1_0) ∧ w'.cell? ⟨gb292, 1, none⟩ = some (.slice A1_1 l1_1.length c1_1) ∧ w'.cell? ⟨gb292, 2, none⟩ = some (.slice A1_2 l1_2.length c1_2)) (ds := []) #[false, false, false, false, false] (by kernel_rfl) rfl rfl ⟨(blk_cell BK329.out 0).trans rfl, (blk_cell BK329.out 1).trans rfl, (blk_cell BK329.out 2).trans rfl, (blk_cell BK292.out 0).trans rfl, (blk_cell BK292.out 1).trans rfl, (blk_cell BK292.out 2).trans rfl⟩ (fun hHeld => ?_)
     generalize w60.drew = w65 at HO300 HO303 HO307 HO310 HO317 HO320 HO325 HO328 HO336 HO339 BK291 BK292 BK321 BK329 HB hHeld ⊢
     refine take_ (i := 0) (N := some 40) (v := ?_) (a' := ?_) #[true, false, false, false, false] rfl rfl (by kernel_rfl) (fun _ _ _ h => h) (Or.inl ⟨by rfl, ?_⟩) hHeld ?_ ?_
     rotate_left
     ·rintro w' ⟨s0, s1, s2, s3, s4, s5⟩
      go_simp
      with_reducible rfl
     rotate_left
     ·simp only [Act.put, List.setIfInBounds_toArray, List.set_cons_zero, List.set_cons_succ, i64_w, i32_w]
      rfl
     refine take_ (i := 1) (N := some 41) (v := ?_) (a' := ?_) #[true, true, false, false, false] rfl rfl (by kernel_rfl) (fun _ _ _ h => h) (Or.inl ⟨by rfl, ?_⟩) hHeld ?_ ?_
     rotate_left
     ·rintro w' ⟨s0, s1, s2, s3, s4, s5⟩
      go_simp
      with_reducible rfl
     rotate_left
     ·simp only [Act.put, List.setIfInBounds_toArray, List.set_cons_zero, List.set_cons_succ, i64_w, i32_w]
      rfl
     refine one_ (i := 2) (N := some 42) #[true, true, true, false, false] rfl rfl (by kernel_rfl) (by decide) (fun K hK => ?_)
     refine goes_ Try.func25 (by kernel_rfl) rfl #[.agg #[.int .i64 a1_0, .slice A1_1 l1_1.length c1_1, .slice A1_2 l1_2.length c1_2]] (by rfl) rfl rfl ma_ ?_
     with_reducible refine (laws_toType.calls k a1_0 _ _ l1_1 _ _ l1_2 t341 t342 t345 _ ?side1 ?side2 ?side3 ?side4 A62.out).mono ?_
     (case side1 => exact C_ (Kd.C_below HR1_1.out HB.out))
     (case side2 => exact HC1_1.out)
     (case side3 => exact C_ (Kd.C_below HR1_2.out HB.out))
     (case side4 => exact HC1_2.out)
     rintro e w66 ⟨v343, v346, rfl, ho0, ho1, hb⟩
     refine ⟨_, rfl, ?_⟩
     replace HO303 := Aside0.mk (Kd.R_elder' (R_ HO303.out) (Kd.R_base ho0) hb)
     replace HO320 := Aside0.mk (Kd.R_elder' (R_ HO320.out) (Kd.R_base ho0) hb)
     replace HO339 := Aside0.mk (Kd.R_elder' (R_ HO339.out) (Kd.R_base ho0) hb)
     have HO344 := Aside0.mk (Kd.R_lower (Kd.R_new' (Kd.R_new' (Kd.R_new' (Kd.R_new' (Kd.R_new' ho0 (Kd.R_lt (R_ HO300.out))) (Kd.R_lt (R_ HO307.out))) (Kd.R_lt (R_ HO317.out))) (Kd.R_lt (R_ HO325.out))) (Kd.R_lt (R_ HO336.out))) (below_size (by repeat (first | (with_reducible first | exact HB.out | apply below_alloc | apply pw_below_drewN | apply below_drew1 | refine below_set ?_ GE291.out | refine below_set ?_ GE292.out | refine below_set ?_ GE321.out | refine below_set ?_ GE329.out) | exact HB.out))))
     have HO347 := Aside0.mk (Kd.R_lower (Kd.R_newB (Kd.R_new' (Kd.R_new' (Kd.R_new' (Kd.R_new' (Kd.R_new' (Kd.R_new' (Kd.R_new' ho1 (Kd.R_lt (R_ HO300.out))) (Kd.R_lt (R_ HO307.out))) (Kd.R_lt (R_ HO310.out))) (Kd.R_lt (R_ HO317.out))) (Kd.R_lt (R_ HO325.out))) (Kd.R_lt (R_ HO328.out))) (Kd.R_lt (R_ HO336.out))) (g := gb329) (o := .cells #[.int .i64 t322, .slice Ao48 t323.length co48, .slice Ao49 t326.length co49] 44 (0, 0)) (K_ BK329.out)) (below_size (by repeat (first | (with_reducible first | exact HB.out | apply below_alloc | apply pw_below_drewN | apply below_drew1 | refine below_set ?_ GE291.out | refine below_set ?_ GE292.out | refine below_set ?_ GE321.out | refine below_set ?_ GE329.out) | exact HB.out))))
     replace HO300 := Aside0.mk (Kd.R_elder' (R_ HO300.out) (Kd.R_base ho0) hb)
     replace HO307 := Aside0.mk (Kd.R_elder' (R_ HO307.out) (Kd.R_base ho0) hb)
     replace HO310 := Aside0.mk (Kd.R_mono (Kd.R_told (Kd.R_told (Kd.R_old (R_ HO310.out) hb) (Kd.R_base ho0)) (Kd.R_base ho1)) (fun _ h_ => h_.1))
     replace HO317 := Aside0.mk (Kd.R_elder' (R_ HO317.out) (Kd.R_base ho0) hb)
     replace HO325 := Aside0.mk (Kd.R_elder' (R_ HO325.out) (Kd.R_base ho0) hb)
     replace HO328 := Aside0.mk (Kd.R_mono (Kd.R_told (Kd.R_told (Kd.R_old (R_ HO328.out) hb) (Kd.R_base ho0)) (Kd.R_base ho1)) (fun _ h_ => h_.1))
     replace HO336 := Aside0.mk (Kd.R_elder' (R_ HO336.out) (Kd.R_base ho0) hb)
     replace BK291 := Aside0.mk (blk_below (K_ BK291.out) hb)
     replace BK292 := Aside0.mk (blk_below (K_ BK292.out) hb)
     replace BK321 := Aside0.mk (blk_below (K_ BK321.out) hb)
     replace BK329 := Aside0.mk (blk_below (K_ BK329.out) hb)
     replace HB := Aside0.mk (below_step (by repeat (first | (with_reducible first | exact HB.out | apply below_alloc | apply pw_below_drewN | apply below_drew1 | refine below_set ?_ GE291.out | refine below_set ?_ GE292.out | refine below_set ?_ GE321.out | refine below_set ?_ GE329.out) | exact HB.out)) hb)
     (try clear hb)
     (try clear hb2)
     (try clear hk)
     (try clear hi)
     (try clear ho0)
     (try clear ho1)
     obtain ⟨Ao67, co67, eo67⟩ := Kd.R_slice HO344.out
     (first | subst eo67 | (injection eo67 with f1_ f2_ f3_; have f4_ := f1_.symm; have f5_ := f3_.symm; clear f1_ f2_ f3_; subst f4_; subst f5_))
     obtain ⟨Ao68, co68, eo68⟩ := Kd.R_slice HO347.out
     (first | subst eo68 | (injection eo68 with f1_ f2_ f3_; have f4_ := f1_.symm; have f5_ := f3_.symm; clear f1_ f2_ f3_; subst f4_; subst f5_))
     refine hK.out _ _ ⟨(blk_cell BK329.out 0).trans rfl, (blk_cell BK329.out 1).trans rfl, (blk_cell BK329.out 2).trans rfl, (blk_cell BK292.out 0).trans rfl, (blk_cell BK292.out 1).trans rfl, (blk_cell BK292.out 2).trans rfl⟩ (fun hHeld => ?_)
     clear hK K
     refine norm_ (a' := ?_) ?_ ?_
     rotate_left
     ·show Act.put _ (some 42) _ = _
      simp only [Act.put, List.setIfInBounds_toArray, List.set_cons_zero, List.set_cons_succ, i64_w, i32_w]
      rfl
     refine one_ (i := 3) (N := some 43) #[true, true, true, true, false] rfl rfl (by kernel_rfl) (by decide) (fun K hK => ?_)
     refine goes_ Try.func27 (by kernel_rfl) rfl #[.agg #[.int .i64 t322, .slice Ao48 t323.length co48, .slice Ao49 t326.length co49], .agg #[.int .i64 t341, .slice Ao67 t342.length co67, .slice Ao68 t345.length co68]] (by rfl) rfl rfl ma_ ?_
     with_reducible refine (laws_eqType.calls k t322 _ _ t323 _ _ t326 t341 _ _ t342 _ _ t345 t348 _ ?side1 ?side2 ?side3 ?side4 ?side5 ?side6 ?side7 ?side8 A63.out).mono ?_
     (case side1 => exact C_ (Kd.R_reads' HO325.out).2.2)
     (case side2 => exact (Kd.R_reads' HO325.out).2.1)
     (case side3 => exact C_ (Kd.R_reads' HO328.out).2.2)
     (case side4 => exact (Kd.R_reads' HO328.out).2.1)
     (case side5 => exact C_ (Kd.R_reads' HO344.out).2.2)
     (case side6 => exact (Kd.R_reads' HO344.out).2.1)
     (case side7 => exact C_ (Kd.R_reads' HO347.out).2.2)
     (case side8 => exact (Kd.R_reads' HO347.out).2.1)
     rintro e w69 ⟨rfl, hb⟩
     refine ⟨_, rfl, ?_⟩
     replace HO300 := Aside0.mk (Kd.R_below (R_ HO300.out) hb)
     replace HO303 := Aside0.mk (Kd.R_below (R_ HO303.out) hb)
     replace HO307 := Aside0.mk (Kd.R_below (R_ HO307.out) hb)
     replace HO310 := Aside0.mk (Kd.R_below (R_ HO310.out) hb)
     replace HO317 := Aside0.mk (Kd.R_below (R_ HO317.out) hb)
     replace HO320 := Aside0.mk (Kd.R_below (R_ HO320.out) hb)
     replace HO325 := Aside0.mk (Kd.R_below (R_ HO325.out) hb)
     replace HO328 := Aside0.mk (Kd.R_below (R_ HO328.out) hb)
     replace HO336 := Aside0.mk (Kd.R_below (R_ HO336.out) hb)
     replace HO339 := Aside0.mk (Kd.R_below (R_ HO339.out) hb)
     replace HO344 := Aside0.mk (Kd.R_below (R_ HO344.out) hb)
     replace HO347 := Aside0.mk (Kd.R_below (R_ HO347.out) hb)
     replace BK291 := Aside0.mk (blk_below (K_ BK291.out) hb)
     replace BK292 := Aside0.mk (blk_below (K_ BK292.out) hb)
     replace BK321 := Aside0.mk (blk_below (K_ BK321.out) hb)
     replace BK329 := Aside0.mk (blk_below (K_ BK329.out) hb)
     replace HB := Aside0.mk (below_step (by repeat (first | (with_reducible first | exact HB.out | apply below_alloc | apply pw_below_drewN | apply below_drew1 | refine below_set ?_ GE291.out | refine below_set ?_ GE292.out | refine below_set ?_ GE321.out | refine below_set ?_ GE329.out) | exact HB.out)) hb)
     (try clear hb)
     (try clear hb2)
     (try clear hk)
     (try clear hi)
     refine hK.out _ _ ⟨(blk_cell BK329.out 0).trans rfl, (blk_cell BK329.out 1).trans rfl, (blk_cell BK329.out 2).trans rfl, (blk_cell BK292.out 0).trans rfl, (blk_cell BK292.out 1).trans rfl, (blk_cell BK292.out 2).trans rfl⟩ (fun hHeld => ?_)
     clear hK K
     refine norm_ (a' := ?_) ?_ ?_
     rotate_left
     ·show Act.put _ (some 43) _ = _
      simp only [Act.put, List.setIfInBounds_toArray, List.set_cons_zero, List.set_cons_succ, i64_w, i32_w]
      rfl
     refine pure_ (i := 4) (N := some 44) (v := ?_) (a' := ?_) #[true, true, true, true, true] rfl rfl (by kernel_rfl) (fun _ _ _ h => h) (Or.inl ⟨by rfl, ?_⟩) ?_ ?_
     rotate_left
     ·intro w'
      go_simp
      with_reducible rfl
     rotate_left
     ·simp only [Act.put, List.setIfInBounds_toArray, List.set_cons_zero, List.set_cons_succ, i64_w, i32_w]
      rfl
     refine done_ (by kernel_rfl) ?_
     go_upto_if 44 with (fail)
     have H := HC64.out
     clear HC64
     by_cases c70 : t348 = true
     ·subst c70
      have H1 : (some true) = some r := by rw [if_pos rfl] at H; exact H
      clear H
      have H := H1
      clear H1
      obtain rfl := Option.some.inj H
      go_wp2
      go_ret
      exact ⟨er_, by repeat (first | (with_reducible first | exact HB.out | apply below_alloc | apply pw_below_drewN | apply below_drew1 | refine below_set ?_ GE291.out | refine below_set ?_ GE292.out | refine below_set ?_ GE321.out | refine below_set ?_ GE329.out) | exact HB.out)⟩
     ·replace c70 := Bool.eq_false_iff.mpr c70
      subst c70
      have H1 : (some false) = some r := by rw [if_neg (show ¬ (false = true) by decide)] at H; exact H
      clear H
      have H := H1
      clear H1
      obtain rfl := Option.some.inj H
      go_wp2
      go_ret
      exact ⟨er_, by repeat (first | (with_reducible first | exact HB.out | apply below_alloc | apply pw_below_drewN | apply below_drew1 | refine below_set ?_ GE291.out | refine below_set ?_ GE292.out | refine below_set ?_ GE321.out | refine below_set ?_ GE329.out) | exact HB.out)⟩
    ·replace c61 := Bool.eq_false_iff.mpr c61
     subst c61
     have H1 : (some false) = some r := by rw [if_neg (show ¬ (false = true) by decide)] at H; exact H
     clear H
     have H := H1
     clear H1
     obtain rfl := Option.some.inj H
     go_wp2
     go_ret
     exact ⟨er_, by repeat (first | (with_reducible first | exact HB.out | apply below_alloc | apply pw_below_drewN | apply below_drew1 | refine below_set ?_ GE291.out | refine below_set ?_ GE292.out | refine below_set ?_ GE321.out | refine below_set ?_ GE329.out) | exact HB.out)⟩

end Go.Proofs.Ytmelflbbeecjfaa.XB
