-- Written by myprint.py, a program of this session, which runs the kit's printer with changes of its own. Lean checks it.
import Derived.Test.YtmelflbbeecjfaaXBx0
import Derived.Test.YtmelflbbeecjfaaXBx13
import Derived.Test.YtmelflbbeecjfaaXBx14
import Derived.Test.YtmelflbbeecjfaaXBx16
import Derived.Test.YtmelflbbeecjfaaSq
namespace Go.Proofs.Ytmelflbbeecjfaa.XB
open Go.RowKit Go.Proofs.YtmelflbbeecjfaaW.PrintWords Go.Proofs.YtmelflbbeecjfaaW.PrintLast Go.Proofs.YtmelflbbeecjfaaW.PrintMore Go.Proofs.Ytmelflbbeecjfaa.Sq
attribute [local go_sem] max2_int min2_int max_two min_two max_three min_three max_four min_four   -- for this text's walks alone
set_option linter.unusedVariables false
set_option linter.unusedSimpArgs false

/-! ### impl_HasType: function 32 -/
def impl_HasType.f (k : Nat) (a0_0 : Int) (a0_1 : Int) (a0_2 : ByteArray) (l0_3 : List ByteArray) (l0_4 : List (S30)) (a1_0 : Int) (l1_1 : List ByteArray) (l1_2 : List (S44)) : Option (Bool) := (impl_IsValue.f k a0_0 a0_1 a0_2 l0_3 l0_4).bind fun t288 => (if t288 = true then ((impl_IsValidType.f k a1_0 l1_1 l1_2).bind fun t289 => (if t289 = true then ((impl_ofType.f k a0_0 a0_1 a0_2 l0_3 l0_4 a1_0 l1_1 l1_2).bind fun t290 => (some t290)) else (some false))) else (some false))
theorem impl_HasType.mono : ∀ a0 a1 a2 a3 a4 a5 a6 a7 k, LeO (impl_HasType.f k a0 a1 a2 a3 a4 a5 a6 a7) (impl_HasType.f (k + 1) a0 a1 a2 a3 a4 a5 a6 a7) := by
 intro a0 a1 a2 a3 a4 a5 a6 a7 k
 unfold impl_HasType.f
 repeat' first
   | (with_reducible exact impl_IsValidType.mono _ _ _ _)
   | (with_reducible exact impl_IsValue.mono _ _ _ _ _ _)
   | (with_reducible exact impl_ofType.mono _ _ _ _ _ _ _ _ _)
   | (with_reducible exact LeO.refl _)
   | (with_reducible exact LeO.none _)
   | (with_reducible refine LeO.ite ?_ ?_)
   | (with_reducible refine LeO.bind ?_ (fun _ => ?_))
   | exact impl_IsValidType.mono _ _ _ _
   | exact impl_IsValue.mono _ _ _ _ _ _
   | exact impl_ofType.mono _ _ _ _ _ _ _ _ _
   | exact LeO.none _
   | refine LeO.ite ?_ ?_
   | refine LeO.bind ?_ (fun _ => ?_)
set_option maxHeartbeats 8000000 in
set_option maxRecDepth 100000 in
theorem impl_HasType.calls (k : Nat) (a0_0 : Int) (a0_1 : Int) (a0_2 : ByteArray) (A0_3 : Option Addr) (c0_3 : Nat) (l0_3 : List ByteArray) (A0_4 : Option Addr) (c0_4 : Nat) (l0_4 : List (S30)) (a1_0 : Int) (A1_1 : Option Addr) (c1_1 : Nat) (l1_1 : List ByteArray) (A1_2 : Option Addr) (c1_2 : Nat) (l1_2 : List (S44)) (r : Bool) (w : World) (hr0_3 : Kd.C Kd.string w A0_3 l0_3.length l0_3) (hc0_3 : l0_3.length ≤ c0_3) (hr0_4 : Kd.C k30 w A0_4 l0_4.length l0_4) (hc0_4 : l0_4.length ≤ c0_4) (hr1_1 : Kd.C Kd.string w A1_1 l1_1.length l1_1) (hc1_1 : l1_1.length ≤ c1_1) (hr1_2 : Kd.C k44 w A1_2 l1_2.length l1_2) (hc1_2 : l1_2.length ≤ c1_2) (h : impl_HasType.f k a0_0 a0_1 a0_2 l0_3 l0_4 a1_0 l1_1 l1_2 = some r) :
  Calls Try.prog 32 #[.agg #[.int .i64 a0_0, .int .i64 a0_1, .string a0_2, .slice A0_3 l0_3.length c0_3, .slice A0_4 l0_4.length c0_4], .agg #[.int .i64 a1_0, .slice A1_1 l1_1.length c1_1, .slice A1_2 l1_2.length c1_2]] w fun e w' => e = .returned (.bool r) ∧ Below w.heap.size w w' := by
 have hu30 := Try.underlying30
 have hu44 := Try.underlying44
 have HR0_3 := Aside0.mk hr0_3
 have HC0_3 := Aside0.mk hc0_3
 clear hr0_3 hc0_3
 have HR0_4 := Aside0.mk hr0_4
 have HC0_4 := Aside0.mk hc0_4
 clear hr0_4 hc0_4
 have HR1_1 := Aside0.mk hr1_1
 have HC1_1 := Aside0.mk hc1_1
 clear hr1_1 hc1_1
 have HR1_2 := Aside0.mk hr1_2
 have HC1_2 := Aside0.mk hc1_2
 clear hr1_2 hc1_2
 have HB := Aside0.mk (Below.refl w.heap.size w)
 have H : ((impl_IsValue.f k a0_0 a0_1 a0_2 l0_3 l0_4).bind fun t288 => (if t288 = true then ((impl_IsValidType.f k a1_0 l1_1 l1_2).bind fun t289 => (if t289 = true then ((impl_ofType.f k a0_0 a0_1 a0_2 l0_3 l0_4 a1_0 l1_1 l1_2).bind fun t290 => (some t290)) else (some false))) else (some false))) = some r := h
 clear h
 replace H := Option.bind_eq_some_iff.mp H
 obtain ⟨t288, A30, H⟩ := H
 replace H : (if t288 = true then ((impl_IsValidType.f k a1_0 l1_1 l1_2).bind fun t289 => (if t289 = true then ((impl_ofType.f k a0_0 a0_1 a0_2 l0_3 l0_4 a1_0 l1_1 l1_2).bind fun t290 => (some t290)) else (some false))) else (some false)) = some r := H
 have A3 := Aside0.mk A30
 clear A30
 by_cases c4 : t288 = true
 ·subst c4
  have H1 : ((impl_IsValidType.f k a1_0 l1_1 l1_2).bind fun t289 => (if t289 = true then ((impl_ofType.f k a0_0 a0_1 a0_2 l0_3 l0_4 a1_0 l1_1 l1_2).bind fun t290 => (some t290)) else (some false))) = some r := by rw [if_pos rfl] at H; exact H
  clear H
  have H := H1
  clear H1
  replace H := Option.bind_eq_some_iff.mp H
  obtain ⟨t289, A50, H⟩ := H
  replace H : (if t289 = true then ((impl_ofType.f k a0_0 a0_1 a0_2 l0_3 l0_4 a1_0 l1_1 l1_2).bind fun t290 => (some t290)) else (some false)) = some r := H
  have A5 := Aside0.mk A50
  clear A50
  by_cases c6 : t289 = true
  ·subst c6
   have H1 : ((impl_ofType.f k a0_0 a0_1 a0_2 l0_3 l0_4 a1_0 l1_1 l1_2).bind fun t290 => (some t290)) = some r := by rw [if_pos rfl] at H; exact H
   clear H
   have H := H1
   clear H1
   replace H := Option.bind_eq_some_iff.mp H
   obtain ⟨t290, A70, H⟩ := H
   replace H : (some t290) = some r := H
   have A7 := Aside0.mk A70
   clear A70
   obtain rfl := Option.some.inj H
   go_enter Try.func32, Try.ntmps32
   go_wp2_with (first | ((with_reducible refine gate_dst (N := 2) rfl ?_); refine box_event ?hg (N := 2) ?hd (cs := #[.int .i64 a0_0, .int .i64 a0_1, .string a0_2, .slice A0_3 l0_3.length c0_3, .slice A0_4 l0_4.length c0_4]) (t := 30) ?hr ?_; (case hd => rfl); (case hg => rfl); (case hr => first | (go_simp; done) | (go_simp; rfl)); intro gb286 hg w8 hbox hb; have BK286 := Aside0.mk (hbox); have GW286 := Aside0.mk ((by rw [hg]; exact (below_size (B0_ HB.out)) : w.heap.size ≤ gb286)); have GE286 := Aside0.mk ((by rw [hg]; exact (below_size (B0_ HB.out)) : w.heap.size ≤ gb286)); replace HB := Aside0.mk (below_step (B0_ HB.out) hb); clear hb hbox hg) | ((with_reducible refine gate_dst (N := 3) rfl ?_); refine box_event ?hg (N := 3) ?hd (cs := #[.int .i64 a1_0, .slice A1_1 l1_1.length c1_1, .slice A1_2 l1_2.length c1_2]) (t := 44) ?hr ?_; (case hd => rfl); (case hg => rfl); (case hr => first | (go_simp; done) | (go_simp; rfl)); intro gb287 hg w9 hbox hb; have BK287 := Aside0.mk (hbox); have GW287 := Aside0.mk ((by rw [hg]; exact (below_size (B1_ HB.out GE286.out)) : w.heap.size ≤ gb287)); have GE287 := Aside0.mk ((by rw [hg]; exact (below_size (B1_ HB.out GE286.out)) : w.heap.size ≤ gb287)); replace HB := Aside0.mk (below_step (B1_ HB.out GE286.out) hb); have NB286_287 := Aside0.mk ((by rw [hg]; exact Nat.ne_of_lt (blk_lt (K_ BK286.out)) : gb286 ≠ gb287)); have NB287_286 := Aside0.mk ((by rw [hg]; exact Nat.ne_of_gt (blk_lt (K_ BK286.out)) : gb287 ≠ gb286)); replace BK286 := Aside0.mk (blk_below (K_ BK286.out) hb); clear hb hbox hg; have hnb10 := NB286_287.out; have hnc10 := NB287_286.out; obtain ⟨hcz11_0, hcz11_1, hcz11_2, hcz11_3, hcz11_4, hfz11_0, hfz11_1, hfz11_2, hfz11_3, hfz11_4⟩ := box5_ BK286.out) | ((with_reducible refine gate_callee (f := 20) rfl ?_); refine goesL_ (some 6) rfl rfl Try.func20 (by kernel_rfl) rfl #[.agg #[.int .i64 a0_0, .int .i64 a0_1, .string a0_2, .slice A0_3 l0_3.length c0_3, .slice A0_4 l0_4.length c0_4]] rfl ma_ ?_; (with_reducible refine (impl_IsValue.calls k a0_0 a0_1 a0_2 _ _ l0_3 _ _ l0_4 true _ ?side1 ?side2 ?side3 ?side4 A3.out).mono ?_); (case side1 => exact C_ (Kd.C_below HR0_3.out HB.out)); (case side2 => exact HC0_3.out); (case side3 => exact C_ (Kd.C_below HR0_4.out HB.out)); (case side4 => exact HC0_4.out); rintro e w12 ⟨rfl, hb⟩; refine ⟨_, rfl, ?_⟩; replace BK286 := Aside0.mk (blk_below (K_ BK286.out) hb); replace BK287 := Aside0.mk (blk_below (K_ BK287.out) hb); replace HB := Aside0.mk (below_step (B2_ HB.out GE286.out GE287.out) hb); (try clear hb); (try clear hb2); (try clear hk); (try clear hi); obtain ⟨hcz13_0, hcz13_1, hcz13_2, hfz13_0, hfz13_1, hfz13_2⟩ := box3_ BK287.out) | (go_at_call 60; (with_reducible refine (impl_IsValidType.calls k a1_0 _ _ l1_1 _ _ l1_2 true _ ?side1 ?side2 ?side3 ?side4 A5.out).mono ?_); (case side1 => exact C_ (Kd.C_below HR1_1.out HB.out)); (case side2 => exact HC1_1.out); (case side3 => exact C_ (Kd.C_below HR1_2.out HB.out)); (case side4 => exact HC1_2.out); rintro e w14 ⟨rfl, hb⟩; replace BK286 := Aside0.mk (blk_below (K_ BK286.out) hb); replace BK287 := Aside0.mk (blk_below (K_ BK287.out) hb); replace HB := Aside0.mk (below_step (B2_ HB.out GE286.out GE287.out) hb); (try clear hb); (try clear hb2); (try clear hk); (try clear hi); obtain ⟨hcz15_0, hcz15_1, hcz15_2, hcz15_3, hcz15_4, hfz15_0, hfz15_1, hfz15_2, hfz15_3, hfz15_4⟩ := box5_ BK286.out; obtain ⟨hcz16_0, hcz16_1, hcz16_2, hfz16_0, hfz16_1, hfz16_2⟩ := box3_ BK287.out) | (go_at_call 69; (with_reducible refine (impl_ofType.calls k a0_0 a0_1 a0_2 _ _ l0_3 _ _ l0_4 a1_0 _ _ l1_1 _ _ l1_2 t290 _ ?side1 ?side2 ?side3 ?side4 ?side5 ?side6 ?side7 ?side8 A7.out).mono ?_); (case side1 => exact C_ (Kd.C_below HR0_3.out HB.out)); (case side2 => exact HC0_3.out); (case side3 => exact C_ (Kd.C_below HR0_4.out HB.out)); (case side4 => exact HC0_4.out); (case side5 => exact C_ (Kd.C_below HR1_1.out HB.out)); (case side6 => exact HC1_1.out); (case side7 => exact C_ (Kd.C_below HR1_2.out HB.out)); (case side8 => exact HC1_2.out); rintro e w17 ⟨rfl, hb⟩; replace BK286 := Aside0.mk (blk_below (K_ BK286.out) hb); replace BK287 := Aside0.mk (blk_below (K_ BK287.out) hb); replace HB := Aside0.mk (below_step (B2_ HB.out GE286.out GE287.out) hb); (try clear hb); (try clear hb2); (try clear hk); (try clear hi)))
   go_ret
   exact ⟨er_, B2_ HB.out GE286.out GE287.out⟩
  ·replace c6 := Bool.eq_false_iff.mpr c6
   subst c6
   have H1 : (some false) = some r := by rw [if_neg (show ¬ (false = true) by decide)] at H; exact H
   clear H
   have H := H1
   clear H1
   obtain rfl := Option.some.inj H
   go_enter Try.func32, Try.ntmps32
   go_wp2_with (first | ((with_reducible refine gate_dst (N := 2) rfl ?_); refine box_event ?hg (N := 2) ?hd (cs := #[.int .i64 a0_0, .int .i64 a0_1, .string a0_2, .slice A0_3 l0_3.length c0_3, .slice A0_4 l0_4.length c0_4]) (t := 30) ?hr ?_; (case hd => rfl); (case hg => rfl); (case hr => first | (go_simp; done) | (go_simp; rfl)); intro gb286 hg w18 hbox hb; have BK286 := Aside0.mk (hbox); have GW286 := Aside0.mk ((by rw [hg]; exact (below_size (B0_ HB.out)) : w.heap.size ≤ gb286)); have GE286 := Aside0.mk ((by rw [hg]; exact (below_size (B0_ HB.out)) : w.heap.size ≤ gb286)); replace HB := Aside0.mk (below_step (B0_ HB.out) hb); clear hb hbox hg) | ((with_reducible refine gate_dst (N := 3) rfl ?_); refine box_event ?hg (N := 3) ?hd (cs := #[.int .i64 a1_0, .slice A1_1 l1_1.length c1_1, .slice A1_2 l1_2.length c1_2]) (t := 44) ?hr ?_; (case hd => rfl); (case hg => rfl); (case hr => first | (go_simp; done) | (go_simp; rfl)); intro gb287 hg w19 hbox hb; have BK287 := Aside0.mk (hbox); have GW287 := Aside0.mk ((by rw [hg]; exact (below_size (B1_ HB.out GE286.out)) : w.heap.size ≤ gb287)); have GE287 := Aside0.mk ((by rw [hg]; exact (below_size (B1_ HB.out GE286.out)) : w.heap.size ≤ gb287)); replace HB := Aside0.mk (below_step (B1_ HB.out GE286.out) hb); have NB286_287 := Aside0.mk ((by rw [hg]; exact Nat.ne_of_lt (blk_lt (K_ BK286.out)) : gb286 ≠ gb287)); have NB287_286 := Aside0.mk ((by rw [hg]; exact Nat.ne_of_gt (blk_lt (K_ BK286.out)) : gb287 ≠ gb286)); replace BK286 := Aside0.mk (blk_below (K_ BK286.out) hb); clear hb hbox hg; have hnb20 := NB286_287.out; have hnc20 := NB287_286.out; obtain ⟨hcz21_0, hcz21_1, hcz21_2, hcz21_3, hcz21_4, hfz21_0, hfz21_1, hfz21_2, hfz21_3, hfz21_4⟩ := box5_ BK286.out) | ((with_reducible refine gate_callee (f := 20) rfl ?_); refine goesL_ (some 6) rfl rfl Try.func20 (by kernel_rfl) rfl #[.agg #[.int .i64 a0_0, .int .i64 a0_1, .string a0_2, .slice A0_3 l0_3.length c0_3, .slice A0_4 l0_4.length c0_4]] rfl ma_ ?_; (with_reducible refine (impl_IsValue.calls k a0_0 a0_1 a0_2 _ _ l0_3 _ _ l0_4 true _ ?side1 ?side2 ?side3 ?side4 A3.out).mono ?_); (case side1 => exact C_ (Kd.C_below HR0_3.out HB.out)); (case side2 => exact HC0_3.out); (case side3 => exact C_ (Kd.C_below HR0_4.out HB.out)); (case side4 => exact HC0_4.out); rintro e w22 ⟨rfl, hb⟩; refine ⟨_, rfl, ?_⟩; replace BK286 := Aside0.mk (blk_below (K_ BK286.out) hb); replace BK287 := Aside0.mk (blk_below (K_ BK287.out) hb); replace HB := Aside0.mk (below_step (B2_ HB.out GE286.out GE287.out) hb); (try clear hb); (try clear hb2); (try clear hk); (try clear hi); obtain ⟨hcz23_0, hcz23_1, hcz23_2, hfz23_0, hfz23_1, hfz23_2⟩ := box3_ BK287.out) | (go_at_call 60; (with_reducible refine (impl_IsValidType.calls k a1_0 _ _ l1_1 _ _ l1_2 false _ ?side1 ?side2 ?side3 ?side4 A5.out).mono ?_); (case side1 => exact C_ (Kd.C_below HR1_1.out HB.out)); (case side2 => exact HC1_1.out); (case side3 => exact C_ (Kd.C_below HR1_2.out HB.out)); (case side4 => exact HC1_2.out); rintro e w24 ⟨rfl, hb⟩; replace BK286 := Aside0.mk (blk_below (K_ BK286.out) hb); replace BK287 := Aside0.mk (blk_below (K_ BK287.out) hb); replace HB := Aside0.mk (below_step (B2_ HB.out GE286.out GE287.out) hb); (try clear hb); (try clear hb2); (try clear hk); (try clear hi)))
   go_ret
   exact ⟨er_, B2_ HB.out GE286.out GE287.out⟩
 ·replace c4 := Bool.eq_false_iff.mpr c4
  subst c4
  have H1 : (some false) = some r := by rw [if_neg (show ¬ (false = true) by decide)] at H; exact H
  clear H
  have H := H1
  clear H1
  obtain rfl := Option.some.inj H
  go_enter Try.func32, Try.ntmps32
  go_wp2_with (first | ((with_reducible refine gate_dst (N := 2) rfl ?_); refine box_event ?hg (N := 2) ?hd (cs := #[.int .i64 a0_0, .int .i64 a0_1, .string a0_2, .slice A0_3 l0_3.length c0_3, .slice A0_4 l0_4.length c0_4]) (t := 30) ?hr ?_; (case hd => rfl); (case hg => rfl); (case hr => first | (go_simp; done) | (go_simp; rfl)); intro gb286 hg w25 hbox hb; have BK286 := Aside0.mk (hbox); have GW286 := Aside0.mk ((by rw [hg]; exact (below_size (B0_ HB.out)) : w.heap.size ≤ gb286)); have GE286 := Aside0.mk ((by rw [hg]; exact (below_size (B0_ HB.out)) : w.heap.size ≤ gb286)); replace HB := Aside0.mk (below_step (B0_ HB.out) hb); clear hb hbox hg) | ((with_reducible refine gate_dst (N := 3) rfl ?_); refine box_event ?hg (N := 3) ?hd (cs := #[.int .i64 a1_0, .slice A1_1 l1_1.length c1_1, .slice A1_2 l1_2.length c1_2]) (t := 44) ?hr ?_; (case hd => rfl); (case hg => rfl); (case hr => first | (go_simp; done) | (go_simp; rfl)); intro gb287 hg w26 hbox hb; have BK287 := Aside0.mk (hbox); have GW287 := Aside0.mk ((by rw [hg]; exact (below_size (B1_ HB.out GE286.out)) : w.heap.size ≤ gb287)); have GE287 := Aside0.mk ((by rw [hg]; exact (below_size (B1_ HB.out GE286.out)) : w.heap.size ≤ gb287)); replace HB := Aside0.mk (below_step (B1_ HB.out GE286.out) hb); have NB286_287 := Aside0.mk ((by rw [hg]; exact Nat.ne_of_lt (blk_lt (K_ BK286.out)) : gb286 ≠ gb287)); have NB287_286 := Aside0.mk ((by rw [hg]; exact Nat.ne_of_gt (blk_lt (K_ BK286.out)) : gb287 ≠ gb286)); replace BK286 := Aside0.mk (blk_below (K_ BK286.out) hb); clear hb hbox hg; have hnb27 := NB286_287.out; have hnc27 := NB287_286.out; obtain ⟨hcz28_0, hcz28_1, hcz28_2, hcz28_3, hcz28_4, hfz28_0, hfz28_1, hfz28_2, hfz28_3, hfz28_4⟩ := box5_ BK286.out) | ((with_reducible refine gate_callee (f := 20) rfl ?_); refine goesL_ (some 6) rfl rfl Try.func20 (by kernel_rfl) rfl #[.agg #[.int .i64 a0_0, .int .i64 a0_1, .string a0_2, .slice A0_3 l0_3.length c0_3, .slice A0_4 l0_4.length c0_4]] rfl ma_ ?_; (with_reducible refine (impl_IsValue.calls k a0_0 a0_1 a0_2 _ _ l0_3 _ _ l0_4 false _ ?side1 ?side2 ?side3 ?side4 A3.out).mono ?_); (case side1 => exact C_ (Kd.C_below HR0_3.out HB.out)); (case side2 => exact HC0_3.out); (case side3 => exact C_ (Kd.C_below HR0_4.out HB.out)); (case side4 => exact HC0_4.out); rintro e w29 ⟨rfl, hb⟩; refine ⟨_, rfl, ?_⟩; replace BK286 := Aside0.mk (blk_below (K_ BK286.out) hb); replace BK287 := Aside0.mk (blk_below (K_ BK287.out) hb); replace HB := Aside0.mk (below_step (B2_ HB.out GE286.out GE287.out) hb); (try clear hb); (try clear hb2); (try clear hk); (try clear hi)))
  go_ret
  exact ⟨er_, B2_ HB.out GE286.out GE287.out⟩

end Go.Proofs.Ytmelflbbeecjfaa.XB
