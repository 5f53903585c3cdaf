-- Written by myprint.py, a program of this session, which runs the kit's printer with changes of its own. Lean checks it.
import Derived.Test.YtingaflikkeefaaXBx0
import Derived.Test.YtingaflikkeefaaXBx6
import Derived.Test.YtingaflikkeefaaXBx8
import Derived.Test.YtingaflikkeefaaXBx11
import Derived.Test.YtingaflikkeefaaXBx15
import Derived.Test.YtingaflikkeefaaXBx16
import Derived.Test.YtingaflikkeefaaSq
namespace Go.Proofs.Ytingaflikkeefaa.XB
open Go.RowKit Go.Proofs.YtingaflikkeefaaW.PrintWords Go.Proofs.YtingaflikkeefaaW.PrintLast Go.Proofs.YtingaflikkeefaaW.PrintMore Go.Proofs.Ytingaflikkeefaa.Sq
attribute [local go_sem] max2_int min2_int max_two min_two max_three min_three max_four min_four   -- for this text's walks alone
set_option linter.unusedVariables false
set_option linter.unusedSimpArgs false

/-! ### impl_PartType: function 32 -/
def impl_PartType.j0 : Nat → ByteArray → Bool → Int → List ByteArray → List (S30) → Option (Int × List ByteArray × (List (S30)) × Bool)
 | 0, _, _, _, _, _ => none
 | k + 1, x1, x19, x510000, x510001, x510002 => if x19 = true then (some (0, ([] : List ByteArray), ([] : List (S30)), false)) else ((impl_IndexOf.f k x510001 x1).bind fun t512 => (if t512 < 0 then (some (0, ([] : List ByteArray), ([] : List (S30)), false)) else (if 0 ≤ t512 then (if t512 < (x510002.length : Int) then ((impl_cloneType.f k ((rd_T30 x510002 t512).f0) ((rd_T30 x510002 t512).f1) ((rd_T30 x510002 t512).f2)).bind fun bt514 => (some (bt514.1, bt514.2.1, bt514.2.2, true))) else (none)) else (none))))
def impl_PartType.f (k : Nat) (a0_0 : Int) (l0_1 : List ByteArray) (l0_2 : List (S30)) (a1 : ByteArray) : Option (Int × List ByteArray × (List (S30)) × Bool) := (impl_IsValidType.f k a0_0 l0_1 l0_2).bind fun t511 => (if t511 = true then (if a0_0 = 3 then (impl_PartType.j0 k a1 false a0_0 l0_1 l0_2) else (impl_PartType.j0 k a1 (a0_0 != 4) a0_0 l0_1 l0_2)) else (impl_PartType.j0 k a1 true a0_0 l0_1 l0_2))
theorem impl_PartType.mono_l : ∀ k, (∀ y0 y1 y2 y3 y4, LeO (impl_PartType.j0 k y0 y1 y2 y3 y4) (impl_PartType.j0 (k + 1) y0 y1 y2 y3 y4))
 | 0 => fun _ _ _ _ _ r h => by simp [impl_PartType.j0] at h
 | k + 1 => by
  have ih0 := impl_PartType.mono_l k
  ·intro y0 y1 y2 y3 y4
   unfold impl_PartType.j0
   repeat' first
   | (with_reducible exact ih0 _ _ _ _ _)
   | (with_reducible exact impl_IndexOf.mono _ _ _)
   | (with_reducible exact impl_IsValidType.mono _ _ _ _)
   | (with_reducible exact impl_cloneType.mono _ _ _ _)
   | (with_reducible exact LeO.refl _)
   | (with_reducible exact LeO.none _)
   | (with_reducible refine LeO.ite ?_ ?_)
   | (with_reducible refine LeO.bind ?_ (fun _ => ?_))
   | exact ih0 _ _ _ _ _
   | exact impl_IndexOf.mono _ _ _
   | exact impl_IsValidType.mono _ _ _ _
   | exact impl_cloneType.mono _ _ _ _
   | exact LeO.none _
   | refine LeO.ite ?_ ?_
   | refine LeO.bind ?_ (fun _ => ?_)
theorem impl_PartType.mono : ∀ a0 a1 a2 a3 k, LeO (impl_PartType.f k a0 a1 a2 a3) (impl_PartType.f (k + 1) a0 a1 a2 a3) := by
 intro a0 a1 a2 a3 k
 have ih0 := impl_PartType.mono_l k
 unfold impl_PartType.f
 repeat' first
   | (with_reducible exact ih0 _ _ _ _ _)
   | (with_reducible exact impl_IndexOf.mono _ _ _)
   | (with_reducible exact impl_IsValidType.mono _ _ _ _)
   | (with_reducible exact impl_cloneType.mono _ _ _ _)
   | (with_reducible exact LeO.refl _)
   | (with_reducible exact LeO.none _)
   | (with_reducible refine LeO.ite ?_ ?_)
   | (with_reducible refine LeO.bind ?_ (fun _ => ?_))
   | exact ih0 _ _ _ _ _
   | exact impl_IndexOf.mono _ _ _
   | exact impl_IsValidType.mono _ _ _ _
   | exact impl_cloneType.mono _ _ _ _
   | exact LeO.none _
   | refine LeO.ite ?_ ?_
   | refine LeO.bind ?_ (fun _ => ?_)
set_option maxHeartbeats 8000000 in
set_option maxRecDepth 100000 in
theorem impl_PartType.calls (k : Nat) (a0_0 : Int) (A0_1 : Option Addr) (c0_1 : Nat) (l0_1 : List ByteArray) (A0_2 : Option Addr) (c0_2 : Nat) (l0_2 : List (S30)) (a1 : ByteArray) (r1 : Int) (r2 : List ByteArray) (r3 : List (S30)) (r4 : Bool) (w : World) (hr0_1 : Kd.C Kd.string w A0_1 l0_1.length l0_1) (hc0_1 : l0_1.length ≤ c0_1) (hr0_2 : Kd.C k30 w A0_2 l0_2.length l0_2) (hc0_2 : l0_2.length ≤ c0_2) (h : impl_PartType.f k a0_0 l0_1 l0_2 a1 = some (r1, r2, r3, r4)) :
  Calls Try.prog 32 #[.agg #[.int .i64 a0_0, .slice A0_1 l0_1.length c0_1, .slice A0_2 l0_2.length c0_2], .string a1] w fun e w' => ∃ v1_ v2_ : Value, e = .returned (.tuple #[.agg #[.int .i64 r1, v1_, v2_], .bool r4]) ∧ Kd.R Kd.string 9 w' w.heap.size (fun _ => True) v1_ r2 ∧ Kd.R k30 30 w' w.heap.size (fun k_ => some k_ ≠ (v1_ : Value).ownBlock) v2_ r3 ∧ Below w.heap.size w w' := by
 have hu30 := Try.underlying30
 have HR0_1 := Aside0.mk hr0_1
 have HC0_1 := Aside0.mk hc0_1
 clear hr0_1 hc0_1
 have HR0_2 := Aside0.mk hr0_2
 have HC0_2 := Aside0.mk hc0_2
 clear hr0_2 hc0_2
 have HB := Aside0.mk (Below.refl w.heap.size w)
 have H : ((impl_IsValidType.f k a0_0 l0_1 l0_2).bind fun t511 => (if t511 = true then (if a0_0 = 3 then (impl_PartType.j0 k a1 false a0_0 l0_1 l0_2) else (impl_PartType.j0 k a1 (a0_0 != 4) a0_0 l0_1 l0_2)) else (impl_PartType.j0 k a1 true a0_0 l0_1 l0_2))) = some (r1, r2, r3, r4) := h
 clear h
 have HC3 := Aside0.mk H
 clear H
 go_enter Try.func32, Try.ntmps32
 go_upto_region 1 with (first | ((with_reducible refine gate_dst (N := 2) rfl ?_); refine box_event ?hg (N := 2) ?hd (cs := #[.int .i64 a0_0, .slice A0_1 l0_1.length c0_1, .slice A0_2 l0_2.length c0_2]) (t := 30) ?hr ?_; (case hd => rfl); (case hg => rfl); (case hr => first | (go_simp; done) | (go_simp; rfl)); intro gb509 hg w4 hbox hb; have BK509 := Aside0.mk (hbox); have GW509 := Aside0.mk ((by rw [hg]; exact (below_size (B0_ HB.out)) : w.heap.size ≤ gb509)); have GE509 := Aside0.mk ((by rw [hg]; exact (below_size (B0_ HB.out)) : w.heap.size ≤ gb509)); replace HB := Aside0.mk (below_step (B0_ HB.out) hb); clear hb hbox hg) | ((with_reducible refine gate_dst (N := 4) rfl ?_); refine box_event ?hg (N := 4) ?hd (cs := #[.int .i64 0, .slice none 0 0, .slice none 0 0]) (t := 30) ?hr ?_; (case hd => rfl); (case hg => rfl); (case hr => first | (go_simp; done) | (go_simp; rfl)); intro gb510 hg w5 hbox hb; have BK510 := Aside0.mk (hbox); have GW510 := Aside0.mk ((by rw [hg]; exact (below_size (B1_ HB.out GE509.out)) : w.heap.size ≤ gb510)); have GE510 := Aside0.mk ((by rw [hg]; exact (below_size (B1_ HB.out GE509.out)) : w.heap.size ≤ gb510)); replace HB := Aside0.mk (below_step (B1_ HB.out GE509.out) hb); have NB509_510 := Aside0.mk ((by rw [hg]; exact Nat.ne_of_lt (blk_lt (K_ BK509.out)) : gb509 ≠ gb510)); have NB510_509 := Aside0.mk ((by rw [hg]; exact Nat.ne_of_gt (blk_lt (K_ BK509.out)) : gb510 ≠ gb509)); replace BK509 := kb_ BK509 hb; clear hb hbox hg))
 (try simp only [Act.put, List.setIfInBounds_toArray, List.set_cons_zero, List.set_cons_succ])
 go_cut [19] (fun v19 wc => ∃ (kq : Nat) (x19_2 : Bool), v19 = .bool x19_2 ∧ Aside0 (impl_PartType.j0 kq a1 x19_2 a0_0 l0_1 l0_2 = some (r1, r2, r3, r4)) ∧ Aside0 (kq ≤ k) ∧ Aside0 (wc.heap[gb509]? = some (.cells #[.int .i64 a0_0, (.slice A0_1 l0_1.length c0_1), (.slice A0_2 l0_2.length c0_2)] 30 (0, 0))) ∧ Aside0 (wc.heap[gb510]? = some (.cells #[.int .i64 0, (.slice none 0 0), (.slice none 0 0)] 30 (0, 0))) ∧ Aside0 (Below w.heap.size w wc))
 case first =>
  have H := HC3.out
  clear HC3
  replace H := Option.bind_eq_some_iff.mp H
  obtain ⟨t511, A60, H⟩ := H
  replace H : (if t511 = true then (if a0_0 = 3 then (impl_PartType.j0 k a1 false a0_0 l0_1 l0_2) else (impl_PartType.j0 k a1 (a0_0 != 4) a0_0 l0_1 l0_2)) else (impl_PartType.j0 k a1 true a0_0 l0_1 l0_2)) = some (r1, r2, r3, r4) := H
  have A6 := Aside0.mk A60
  clear A60
  by_cases c7 : t511 = true
  ·subst c7
   have H1 : (if a0_0 = 3 then (impl_PartType.j0 k a1 false a0_0 l0_1 l0_2) else (impl_PartType.j0 k a1 (a0_0 != 4) a0_0 l0_1 l0_2)) = some (r1, r2, r3, r4) := by rw [if_pos rfl] at H; exact H
   clear H
   have H := H1
   clear H1
   by_cases c8 : a0_0 = 3
   ·rw [if_pos c8] at H
    have c8b0 : (a0_0 == 3) = true := beq_iff_eq.mpr c8
    have c8b1 : (a0_0 != 3) = false := bne_eq_false_iff_eq.mpr c8
    clear c8
    (first | rw [c8b0] | (simp only [i64_w, i32_w]; rw [c8b0]) | skip)
    have H' := Aside0.mk H
    clear H
    have hnb9 := NB509_510.out
    have hnc9 := NB510_509.out
    obtain ⟨hcz10_0, hcz10_1, hcz10_2, hfz10_0, hfz10_1, hfz10_2⟩ := box3_ BK509.out
    go_wp2_with (first | ((with_reducible refine gate_callee (f := 23) rfl ?_); refine goesL_ (some 8) rfl rfl Try.func23 (by kernel_rfl) rfl #[.agg #[.int .i64 a0_0, .slice A0_1 l0_1.length c0_1, .slice A0_2 l0_2.length c0_2]] rfl ma_ ?_; (with_reducible refine (impl_IsValidType.calls k a0_0 _ _ l0_1 _ _ l0_2 true _ ?side1 ?side2 ?side3 ?side4 A6.out).mono ?_); (case side1 => exact C_ (Kd.C_below HR0_1.out HB.out)); (case side2 => exact HC0_1.out); (case side3 => exact C_ (Kd.C_below HR0_2.out HB.out)); (case side4 => exact HC0_2.out); rintro e w11 ⟨rfl, hb⟩; refine ⟨_, rfl, ?_⟩; replace BK509 := kb_ BK509 hb; replace BK510 := kb_ BK510 hb; replace HB := Aside0.mk (below_step (B2_ HB.out GE509.out GE510.out) hb); (try clear hb); (try clear hb2); (try clear hk); (try clear hi); obtain ⟨hcz12_0, hcz12_1, hcz12_2, hfz12_0, hfz12_1, hfz12_2⟩ := box3_ BK509.out))
    go_meet
    case rel => exact ⟨_, (false), q_, H', ⟨le_⟩, ⟨K_ BK509.out⟩, ⟨K_ BK510.out⟩, ⟨B2_ HB.out GE509.out GE510.out⟩⟩
   ·rw [if_neg c8] at H
    have c8b0 : (a0_0 == 3) = false := beq_eq_false_iff_ne.mpr c8
    have c8b1 : (a0_0 != 3) = true := bne_iff_ne.mpr c8
    (first | rw [c8b0] | (simp only [i64_w, i32_w]; rw [c8b0]) | skip)
    have H' := Aside0.mk H
    clear H
    have hnb13 := NB509_510.out
    have hnc13 := NB510_509.out
    obtain ⟨hcz14_0, hcz14_1, hcz14_2, hfz14_0, hfz14_1, hfz14_2⟩ := box3_ BK509.out
    go_wp2_with (first | ((with_reducible refine gate_callee (f := 23) rfl ?_); refine goesL_ (some 8) rfl rfl Try.func23 (by kernel_rfl) rfl #[.agg #[.int .i64 a0_0, .slice A0_1 l0_1.length c0_1, .slice A0_2 l0_2.length c0_2]] rfl ma_ ?_; (with_reducible refine (impl_IsValidType.calls k a0_0 _ _ l0_1 _ _ l0_2 true _ ?side1 ?side2 ?side3 ?side4 A6.out).mono ?_); (case side1 => exact C_ (Kd.C_below HR0_1.out HB.out)); (case side2 => exact HC0_1.out); (case side3 => exact C_ (Kd.C_below HR0_2.out HB.out)); (case side4 => exact HC0_2.out); rintro e w15 ⟨rfl, hb⟩; refine ⟨_, rfl, ?_⟩; replace BK509 := kb_ BK509 hb; replace BK510 := kb_ BK510 hb; replace HB := Aside0.mk (below_step (B2_ HB.out GE509.out GE510.out) hb); (try clear hb); (try clear hb2); (try clear hk); (try clear hi); obtain ⟨hcz16_0, hcz16_1, hcz16_2, hfz16_0, hfz16_1, hfz16_2⟩ := box3_ BK509.out))
    go_meet
    case rel => exact ⟨_, ((a0_0 != 4)), q_, H', ⟨le_⟩, ⟨K_ BK509.out⟩, ⟨K_ BK510.out⟩, ⟨B2_ HB.out GE509.out GE510.out⟩⟩
  ·replace c7 := Bool.eq_false_iff.mpr c7
   subst c7
   have H1 : (impl_PartType.j0 k a1 true a0_0 l0_1 l0_2) = some (r1, r2, r3, r4) := by rw [if_neg (show ¬ (false = true) by decide)] at H; exact H
   clear H
   have H := H1
   clear H1
   have H' := Aside0.mk H
   clear H
   have hnb17 := NB509_510.out
   have hnc17 := NB510_509.out
   obtain ⟨hcz18_0, hcz18_1, hcz18_2, hfz18_0, hfz18_1, hfz18_2⟩ := box3_ BK509.out
   go_wp2_with (first | ((with_reducible refine gate_callee (f := 23) rfl ?_); refine goesL_ (some 8) rfl rfl Try.func23 (by kernel_rfl) rfl #[.agg #[.int .i64 a0_0, .slice A0_1 l0_1.length c0_1, .slice A0_2 l0_2.length c0_2]] rfl ma_ ?_; (with_reducible refine (impl_IsValidType.calls k a0_0 _ _ l0_1 _ _ l0_2 false _ ?side1 ?side2 ?side3 ?side4 A6.out).mono ?_); (case side1 => exact C_ (Kd.C_below HR0_1.out HB.out)); (case side2 => exact HC0_1.out); (case side3 => exact C_ (Kd.C_below HR0_2.out HB.out)); (case side4 => exact HC0_2.out); rintro e w19 ⟨rfl, hb⟩; refine ⟨_, rfl, ?_⟩; replace BK509 := kb_ BK509 hb; replace BK510 := kb_ BK510 hb; replace HB := Aside0.mk (below_step (B2_ HB.out GE509.out GE510.out) hb); (try clear hb); (try clear hb2); (try clear hk); (try clear hi)))
   go_meet
   case rel => exact ⟨_, (true), q_, H', ⟨le_⟩, ⟨K_ BK509.out⟩, ⟨K_ BK510.out⟩, ⟨B2_ HB.out GE509.out GE510.out⟩⟩
 case rest =>
  clear HC3
  obtain ⟨kq, x19_2, rfl, HA, HJ2, BK509, BK510, HB⟩ := hcut
  cases kq with
  | zero => exact absurd HA.out (by simp [impl_PartType.j0])
  | succ kj2 =>
   have H := HA.out
   clear HA
   simp only [impl_PartType.j0] at H
   by_cases c20 : x19_2 = true
   ·subst c20
    have H1 : (some (0, ([] : List ByteArray), ([] : List (S30)), false)) = some (r1, r2, r3, r4) := by rw [if_pos rfl] at H; exact H
    clear H
    have H := H1
    clear H1
    simp only [Option.some.injEq, Prod.mk.injEq] at H
    obtain ⟨rfl, rfl, rfl, rfl⟩ := H
    have hnb21 := NB510_509.out
    have hnc21 := NB509_510.out
    obtain ⟨hcz22_0, hcz22_1, hcz22_2, hfz22_0, hfz22_1, hfz22_2⟩ := box3_ BK510.out
    go_wp2
    refine bodyPost_ret (results_ct rfl _ _ gb510 30 #[.int .i64 0, .slice none 0 0, .slice none 0 0] (0, 0) _ rfl (by (with_reducible repeat (first | refine blk_drewN ?_ _ | refine blk_drew ?_ | refine blk_alloc ?_ _)); refine blk_put (cs := #[.int .i64 0, .slice none 0 0, .slice none 0 0]) ?_ 2 _ rfl; (with_reducible repeat (first | refine blk_drewN ?_ _ | refine blk_drew ?_ | refine blk_alloc ?_ _)); refine blk_put (cs := #[.int .i64 0, .slice none 0 0, .slice none 0 0]) ?_ 1 _ rfl; (with_reducible repeat (first | refine blk_drewN ?_ _ | refine blk_drew ?_ | refine blk_alloc ?_ _)); refine blk_put (cs := #[.int .i64 0, .slice none 0 0, .slice none 0 0]) ?_ 0 _ rfl; (with_reducible repeat (first | refine blk_drewN ?_ _ | refine blk_drew ?_ | refine blk_alloc ?_ _)); exact BK510.out) Try.underlying30 rfl (by kernel_rfl)) rfl ?_
    exact ⟨_, _, er_, by first | exact Kd.R_nil _ _ _ _ _ | exact Kd.N_nil _ _ _ _ _ | exact Kd.V_nil _ _ _ _ _ | exact Kd.Q_nil _ _ _ _ _ | exact Kd.S_nil _ _ _ _ _, by first | exact Kd.R_nil _ _ _ _ _ | exact Kd.N_nil _ _ _ _ _ | exact Kd.V_nil _ _ _ _ _ | exact Kd.Q_nil _ _ _ _ _ | exact Kd.S_nil _ _ _ _ _, B2_ HB.out GE509.out GE510.out⟩
   ·replace c20 := Bool.eq_false_iff.mpr c20
    subst c20
    have H1 : ((impl_IndexOf.f kj2 l0_1 a1).bind fun t512 => (if t512 < 0 then (some (0, ([] : List ByteArray), ([] : List (S30)), false)) else (if 0 ≤ t512 then (if t512 < (l0_2.length : Int) then ((impl_cloneType.f kj2 ((rd_T30 l0_2 t512).f0) ((rd_T30 l0_2 t512).f1) ((rd_T30 l0_2 t512).f2)).bind fun bt514 => (some (bt514.1, bt514.2.1, bt514.2.2, true))) else (none)) else (none)))) = some (r1, r2, r3, r4) := by rw [if_neg (show ¬ (false = true) by decide)] at H; exact H
    clear H
    have H := H1
    clear H1
    replace H := Option.bind_eq_some_iff.mp H
    obtain ⟨t512, A230, H⟩ := H
    replace H : (if t512 < 0 then (some (0, ([] : List ByteArray), ([] : List (S30)), false)) else (if 0 ≤ t512 then (if t512 < (l0_2.length : Int) then ((impl_cloneType.f kj2 ((rd_T30 l0_2 t512).f0) ((rd_T30 l0_2 t512).f1) ((rd_T30 l0_2 t512).f2)).bind fun bt514 => (some (bt514.1, bt514.2.1, bt514.2.2, true))) else (none)) else (none))) = some (r1, r2, r3, r4) := H
    have A23 := Aside0.mk A230
    clear A230
    by_cases c24 : t512 < 0
    ·rw [if_pos c24] at H
     have c24b0 : decide (t512 < 0) = true := decide_eq_true c24
     clear c24
     simp only [Option.some.injEq, Prod.mk.injEq] at H
     obtain ⟨rfl, rfl, rfl, rfl⟩ := H
     have hnb25 := NB509_510.out
     have hnc25 := NB510_509.out
     obtain ⟨hcz26_0, hcz26_1, hcz26_2, hfz26_0, hfz26_1, hfz26_2⟩ := box3_ BK509.out
     go_wp2_with (first | ((with_reducible refine gate_callee (f := 59) rfl ?_); refine goesL_ (some 24) rfl rfl Try.func59 (by kernel_rfl) rfl #[.slice A0_1 l0_1.length c0_1, .string a1] rfl ma_ ?_; (with_reducible refine (impl_IndexOf.calls kj2 _ _ l0_1 a1 t512 _ ?side1 ?side2 A23.out).mono ?_); (case side1 => exact C_ (Kd.C_below HR0_1.out HB.out)); (case side2 => exact HC0_1.out); rintro e w' ⟨rfl, ⟨nd, rfl⟩⟩; refine ⟨_, rfl, ?_⟩; (try (rw [drewN_self wc]; generalize hq_ : World.drewN wc _ = wc; have n0_ : Aside0 (wc.heap[gb509]? = some (.cells #[.int .i64 a0_0, .slice A0_1 l0_1.length c0_1, .slice A0_2 l0_2.length c0_2] 30 (0, 0))) := ⟨by rw [← hq_]; exact (K_ BK509.out)⟩; have n1_ : Aside0 (wc.heap[gb510]? = some (.cells #[.int .i64 0, .slice none 0 0, .slice none 0 0] 30 (0, 0))) := ⟨by rw [← hq_]; exact (K_ BK510.out)⟩; have n2_ : Aside0 (Below w.heap.size w wc) := ⟨by rw [← hq_]; exact (B2_ HB.out GE509.out GE510.out)⟩; clear BK509 BK510 HB hq_; have BK509 := n0_; have BK510 := n1_; have HB := n2_; clear n0_ n1_ n2_)); obtain ⟨hcq509_0, hcq509_1, hcq509_2, hfq509_0, hfq509_1, hfq509_2⟩ := box3_ BK509.out; obtain ⟨hcq510_0, hcq510_1, hcq510_2, hfq510_0, hfq510_1, hfq510_2⟩ := box3_ BK510.out; obtain ⟨hcz27_0, hcz27_1, hcz27_2, hfz27_0, hfz27_1, hfz27_2⟩ := box3_ BK510.out))
     refine bodyPost_ret (results_ct rfl _ _ gb510 30 #[.int .i64 0, .slice none 0 0, .slice none 0 0] (0, 0) _ rfl (by (with_reducible repeat (first | refine blk_drewN ?_ _ | refine blk_drew ?_ | refine blk_alloc ?_ _)); refine blk_put (cs := #[.int .i64 0, .slice none 0 0, .slice none 0 0]) ?_ 2 _ rfl; (with_reducible repeat (first | refine blk_drewN ?_ _ | refine blk_drew ?_ | refine blk_alloc ?_ _)); refine blk_put (cs := #[.int .i64 0, .slice none 0 0, .slice none 0 0]) ?_ 1 _ rfl; (with_reducible repeat (first | refine blk_drewN ?_ _ | refine blk_drew ?_ | refine blk_alloc ?_ _)); refine blk_put (cs := #[.int .i64 0, .slice none 0 0, .slice none 0 0]) ?_ 0 _ rfl; (with_reducible repeat (first | refine blk_drewN ?_ _ | refine blk_drew ?_ | refine blk_alloc ?_ _)); exact BK510.out) Try.underlying30 rfl (by kernel_rfl)) rfl ?_
     exact ⟨_, _, er_, by first | exact Kd.R_nil _ _ _ _ _ | exact Kd.N_nil _ _ _ _ _ | exact Kd.V_nil _ _ _ _ _ | exact Kd.Q_nil _ _ _ _ _ | exact Kd.S_nil _ _ _ _ _, by first | exact Kd.R_nil _ _ _ _ _ | exact Kd.N_nil _ _ _ _ _ | exact Kd.V_nil _ _ _ _ _ | exact Kd.Q_nil _ _ _ _ _ | exact Kd.S_nil _ _ _ _ _, B2_ HB.out GE509.out GE510.out⟩
    ·rw [if_neg c24] at H
     have c24b0 : decide (t512 < 0) = false := decide_eq_false c24
     clear c24
     by_cases c28 : 0 ≤ t512
     ·rw [if_pos c28] at H
      have c28b0 : decide (0 ≤ t512) = true := decide_eq_true c28
      clear c28
      by_cases c29 : t512 < (l0_2.length : Int)
      ·rw [if_pos c29] at H
       have c29b0 : decide (t512 < (l0_2.length : Int)) = true := decide_eq_true c29
       clear c29
       replace H := Option.bind_eq_some_iff.mp H
       obtain ⟨⟨t514, t515, t518⟩, A300, H⟩ := H
       replace H : (some (t514, t515, t518, true)) = some (r1, r2, r3, r4) := H
       have A30 := Aside0.mk A300
       clear A300
       simp only [Option.some.injEq, Prod.mk.injEq] at H
       obtain ⟨rfl, rfl, rfl, rfl⟩ := H
       have hnb31 := NB509_510.out
       have hnc31 := NB510_509.out
       obtain ⟨hcz32_0, hcz32_1, hcz32_2, hfz32_0, hfz32_1, hfz32_2⟩ := box3_ BK509.out
       go_wp2_with (first | ((with_reducible refine gate_callee (f := 59) rfl ?_); refine goesL_ (some 24) rfl rfl Try.func59 (by kernel_rfl) rfl #[.slice A0_1 l0_1.length c0_1, .string a1] rfl ma_ ?_; (with_reducible refine (impl_IndexOf.calls kj2 _ _ l0_1 a1 t512 _ ?side1 ?side2 A23.out).mono ?_); (case side1 => exact C_ (Kd.C_below HR0_1.out HB.out)); (case side2 => exact HC0_1.out); rintro e w' ⟨rfl, ⟨nd, rfl⟩⟩; refine ⟨_, rfl, ?_⟩; (try (rw [drewN_self wc]; generalize hq_ : World.drewN wc _ = wc; have n0_ : Aside0 (wc.heap[gb509]? = some (.cells #[.int .i64 a0_0, .slice A0_1 l0_1.length c0_1, .slice A0_2 l0_2.length c0_2] 30 (0, 0))) := ⟨by rw [← hq_]; exact (K_ BK509.out)⟩; have n1_ : Aside0 (wc.heap[gb510]? = some (.cells #[.int .i64 0, .slice none 0 0, .slice none 0 0] 30 (0, 0))) := ⟨by rw [← hq_]; exact (K_ BK510.out)⟩; have n2_ : Aside0 (Below w.heap.size w wc) := ⟨by rw [← hq_]; exact (B2_ HB.out GE509.out GE510.out)⟩; clear BK509 BK510 HB hq_; have BK509 := n0_; have BK510 := n1_; have HB := n2_; clear n0_ n1_ n2_)); obtain ⟨hcq509_0, hcq509_1, hcq509_2, hfq509_0, hfq509_1, hfq509_2⟩ := box3_ BK509.out; obtain ⟨hcq510_0, hcq510_1, hcq510_2, hfq510_0, hfq510_1, hfq510_2⟩ := box3_ BK510.out; have p513 : 0 ≤ (t512 : Int) := de_; have q513 : t512 < (l0_2.length : Int) := de_; obtain ⟨ad513, A513_1, c513_1, A513_2, c513_2, e513, hx513_0, hx513_1, hx513_2, hl513_1, hi513_1, hl513_2, hi513_2⟩ := at_T30 HR0_2.out t512 p513 q513; cases e513; replace hx513_0 := (HB.out.cell (World.block_lt_of_cell? w _ hx513_0)).trans hx513_0; replace hx513_1 := (HB.out.cell (World.block_lt_of_cell? w _ hx513_1)).trans hx513_1; replace hx513_2 := (HB.out.cell (World.block_lt_of_cell? w _ hx513_2)).trans hx513_2; have HR513_1 := Aside0.mk hi513_1; have HC513_1 := Aside0.mk hl513_1; clear hi513_1 hl513_1; have HR513_2 := Aside0.mk hi513_2; have HC513_2 := Aside0.mk hl513_2; clear hi513_2 hl513_2; replace p513 := eq_true p513; replace q513 := eq_true q513) | ((with_reducible refine gate_callee (f := 60) rfl ?_); refine goesL_ (some 33) rfl rfl Try.func60 (by kernel_rfl) rfl #[.agg #[.int .i64 ((rd_T30 l0_2 t512).f0), .slice A513_1 ((rd_T30 l0_2 t512).f1).length c513_1, .slice A513_2 ((rd_T30 l0_2 t512).f2).length c513_2]] rfl ma_ ?_; (with_reducible refine (impl_cloneType.calls kj2 ((rd_T30 l0_2 t512).f0) _ _ ((rd_T30 l0_2 t512).f1) _ _ ((rd_T30 l0_2 t512).f2) t514 t515 t518 _ ?side1 ?side2 ?side3 ?side4 A30.out).mono ?_); (case side1 => exact C_ (Kd.C_below HR513_1.out HB.out)); (case side2 => exact HC513_1.out); (case side3 => exact C_ (Kd.C_below HR513_2.out HB.out)); (case side4 => exact HC513_2.out); rintro e w33 ⟨v516, v519, rfl, ho0, ho1, hb⟩; refine ⟨_, rfl, ?_⟩; have HO517 := Aside0.mk (Kd.R_lower ho0 (below_size (B2_ HB.out GE509.out GE510.out))); have HO520 := Aside0.mk (Kd.R_lower (Kd.R_newB (Kd.R_newB ho1 (g := gb509) (o := .cells #[.int .i64 a0_0, .slice A0_1 l0_1.length c0_1, .slice (some ad513) l0_2.length c0_2] 30 (0, 0)) (K_ BK509.out)) (g := gb510) (o := .cells #[.int .i64 0, .slice none 0 0, .slice none 0 0] 30 (0, 0)) (K_ BK510.out)) (below_size (B2_ HB.out GE509.out GE510.out))); replace BK509 := kb_ BK509 hb; replace BK510 := kb_ BK510 hb; replace HB := Aside0.mk (below_step (B2_ HB.out GE509.out GE510.out) hb); (try clear hb); (try clear hb2); (try clear hk); (try clear hi); (try clear ho0); (try clear ho1); obtain ⟨hcz34_0, hcz34_1, hcz34_2, hfz34_0, hfz34_1, hfz34_2⟩ := box3_ BK510.out; obtain ⟨Ao35, co35, eo35⟩ := Kd.R_slice HO517.out; subst eo35; obtain ⟨Ao36, co36, eo36⟩ := Kd.R_slice HO520.out; subst eo36))
       refine bodyPost_ret (results_ct rfl _ _ gb510 30 #[.int .i64 t514, .slice Ao35 t515.length co35, .slice Ao36 t518.length co36] (0, 0) _ rfl (by (with_reducible repeat (first | refine blk_drewN ?_ _ | refine blk_drew ?_ | refine blk_alloc ?_ _)); refine blk_put (cs := #[.int .i64 t514, .slice Ao35 t515.length co35, .slice none 0 0]) ?_ 2 _ rfl; (with_reducible repeat (first | refine blk_drewN ?_ _ | refine blk_drew ?_ | refine blk_alloc ?_ _)); refine blk_put (cs := #[.int .i64 t514, .slice none 0 0, .slice none 0 0]) ?_ 1 _ rfl; (with_reducible repeat (first | refine blk_drewN ?_ _ | refine blk_drew ?_ | refine blk_alloc ?_ _)); refine blk_put (cs := #[.int .i64 0, .slice none 0 0, .slice none 0 0]) ?_ 0 _ rfl; (with_reducible repeat (first | refine blk_drewN ?_ _ | refine blk_drew ?_ | refine blk_alloc ?_ _)); exact BK510.out) Try.underlying30 rfl (by kernel_rfl)) rfl ?_
       exact ⟨_, _, er_, by (with_reducible repeat (first | apply Kd.R_alloc | apply Kd.R_drewN | apply Kd.R_drew)); exact Kd.R_mono (Kd.R_far (p := ⟨gb510, 2, none⟩) (Kd.R_far (p := ⟨gb510, 1, none⟩) (Kd.R_far (p := ⟨gb510, 0, none⟩) (Kd.R_types HO517.out BK510.out (by decide)) (fun _ hk => hk.2) (.int .i64 t514)) (fun _ hk => hk.2) (.slice Ao35 t515.length co35)) (fun _ hk => hk.2) (.slice Ao36 t518.length co36)) (fun _ hk => trivial), by (with_reducible repeat (first | apply Kd.R_alloc | apply Kd.R_drewN | apply Kd.R_drew)); exact Kd.R_mono (Kd.R_far (p := ⟨gb510, 2, none⟩) (Kd.R_far (p := ⟨gb510, 1, none⟩) (Kd.R_far (p := ⟨gb510, 0, none⟩) (Kd.R_mono HO520.out (fun k_ hk => (⟨hk, hk.2⟩ : _ ∧ k_ ≠ gb510))) (fun _ hk => hk.2) (.int .i64 t514)) (fun _ hk => hk.2) (.slice Ao35 t515.length co35)) (fun _ hk => hk.2) (.slice Ao36 t518.length co36)) (fun _ hk => hk.1.1.1), B2_ HB.out GE509.out GE510.out⟩
      ·rw [if_neg c29] at H
       exact absurd H (by simp)
     ·rw [if_neg c28] at H
      exact absurd H (by simp)

/-! ### spec_IndexOf: function 61 -/
def spec_IndexOf.l0 : Nat → List ByteArray → ByteArray → Int → Option (Int)
 | 0, _, _, _ => none
 | k + 1, x0, x1, x5 => if x5 < (x0.length : Int) then (if 0 ≤ x5 then (if (rdOf ByteArray.empty x0 x5).toList = x1.toList then (some x5) else (spec_IndexOf.l0 k x0 x1 (wrap64 (x5 + 1)))) else (none)) else (some (-1))
def spec_IndexOf.f (k : Nat) (l0 : List ByteArray) (a1 : ByteArray) : Option (Int) := spec_IndexOf.l0 k l0 a1 0
theorem spec_IndexOf.mono_l : ∀ k, (∀ y0 y1 y2, LeO (spec_IndexOf.l0 k y0 y1 y2) (spec_IndexOf.l0 (k + 1) y0 y1 y2))
 | 0 => fun _ _ _ r h => by simp [spec_IndexOf.l0] at h
 | k + 1 => by
  have ih0 := spec_IndexOf.mono_l k
  ·intro y0 y1 y2
   unfold spec_IndexOf.l0
   repeat' first
   | (with_reducible exact ih0 _ _ _)
   | (with_reducible exact LeO.refl _)
   | (with_reducible exact LeO.none _)
   | (with_reducible refine LeO.ite ?_ ?_)
   | (with_reducible refine LeO.bind ?_ (fun _ => ?_))
   | exact ih0 _ _ _
   | exact LeO.none _
   | refine LeO.ite ?_ ?_
   | refine LeO.bind ?_ (fun _ => ?_)
theorem spec_IndexOf.mono : ∀ a0 a1 k, LeO (spec_IndexOf.f k a0 a1) (spec_IndexOf.f (k + 1) a0 a1) := by
 intro a0 a1 k
 have ih0 := spec_IndexOf.mono_l k
 unfold spec_IndexOf.f
 repeat' first
   | (with_reducible exact ih0 _ _ _)
   | (with_reducible exact LeO.refl _)
   | (with_reducible exact LeO.none _)
   | (with_reducible refine LeO.ite ?_ ?_)
   | (with_reducible refine LeO.bind ?_ (fun _ => ?_))
   | exact ih0 _ _ _
   | exact LeO.none _
   | refine LeO.ite ?_ ?_
   | refine LeO.bind ?_ (fun _ => ?_)
set_option maxHeartbeats 8000000 in
set_option maxRecDepth 100000 in
theorem spec_IndexOf.calls (k : Nat) (A0 : Option Addr) (c0 : Nat) (l0 : List ByteArray) (a1 : ByteArray) (r : Int) (w : World) (hr0 : Kd.C Kd.string w A0 l0.length l0) (hc0 : l0.length ≤ c0) (h : spec_IndexOf.f k l0 a1 = some r) :
  Calls Try.prog 61 #[.slice A0 l0.length c0, .string a1] w fun e w' => e = .returned (.int .i64 r) ∧ Drawn0 w w' := by
 have HR0 := Aside0.mk hr0
 have HC0 := Aside0.mk hc0
 clear hr0 hc0
 have H : (spec_IndexOf.l0 k l0 a1 0) = some r := h
 clear h
 have H' := Aside0.mk H
 clear H
 go_enter Try.func61, Try.ntmps61
 go_wp2
 go_loopg [5] k (fun kq v5 w' => ∃ (x5_1 : Int), v5 = .int .i64 x5_1 ∧ Aside0 (spec_IndexOf.l0 kq l0 a1 x5_1 = some r) ∧ Aside0 (kq ≤ k) ∧ Drawn0 w w')
 case atStart => exact ⟨(0), q_, H', ⟨Nat.le_refl _⟩, by repeat (first | exact Drawn0.refl _ | apply Drawn0.step)⟩
 case round =>
  clear H'
  obtain ⟨x5_1, rfl, HA, HK1, ⟨m1, rfl⟩⟩ := hrel
  cases gk with
  | zero => exact absurd HA.out (by simp [spec_IndexOf.l0])
  | succ k1 =>
   have H := HA.out
   clear HA
   simp only [spec_IndexOf.l0] at H
   by_cases c3 : x5_1 < (l0.length : Int)
   ·rw [if_pos c3] at H
    have c3b0 : decide (x5_1 < (l0.length : Int)) = true := decide_eq_true c3
    clear c3
    by_cases c4 : 0 ≤ x5_1
    ·rw [if_pos c4] at H
     have c4b0 : decide (0 ≤ x5_1) = true := decide_eq_true c4
     clear c4
     by_cases c5 : (rdOf ByteArray.empty l0 x5_1).toList = a1.toList
     ·rw [if_pos c5] at H
      have c5b0 : ((rdOf ByteArray.empty l0 x5_1).toList == a1.toList) = true := beq_iff_eq.mpr c5
      have c5b1 : ((rdOf ByteArray.empty l0 x5_1).toList != a1.toList) = false := bne_eq_false_iff_eq.mpr c5
      clear c5
      obtain rfl := Option.some.inj H
      have p521 : 0 ≤ (x5_1 : Int) := de_
      have q521 : x5_1 < (l0.length : Int) := de_
      obtain ⟨ad521, e521, hx521_0⟩ := Kd.at_string HR0.out x5_1 p521 q521
      cases e521
      replace p521 := eq_true p521
      replace q521 := eq_true q521
      go_wp2
      go_ret
      exact ⟨by first | rfl | (simp; done) | (simp [*]; done), by repeat (first | exact Drawn0.refl _ | apply Drawn0.step)⟩
     ·rw [if_neg c5] at H
      have c5b0 : ((rdOf ByteArray.empty l0 x5_1).toList == a1.toList) = false := beq_eq_false_iff_ne.mpr c5
      have c5b1 : ((rdOf ByteArray.empty l0 x5_1).toList != a1.toList) = true := bne_iff_ne.mpr c5
      have H' := Aside0.mk H
      clear H
      have p521 : 0 ≤ (x5_1 : Int) := de_
      have q521 : x5_1 < (l0.length : Int) := de_
      obtain ⟨ad521, e521, hx521_0⟩ := Kd.at_string HR0.out x5_1 p521 q521
      cases e521
      replace p521 := eq_true p521
      replace q521 := eq_true q521
      go_wp2
      go_roundg k1
      case measure => have := HK1.out; omega
      case rel => exact ⟨(wrap64 (x5_1 + 1)), q_, H', ⟨by have := HK1.out; omega⟩, by repeat (first | exact Drawn0.refl _ | apply Drawn0.step)⟩
    ·rw [if_neg c4] at H
     exact absurd H (by simp)
   ·rw [if_neg c3] at H
    have c3b0 : decide (x5_1 < (l0.length : Int)) = false := decide_eq_false c3
    clear c3
    obtain rfl := Option.some.inj H
    go_wp2
    go_ret
    exact ⟨by first | rfl | (simp; done) | (simp [*]; done), by repeat (first | exact Drawn0.refl _ | apply Drawn0.step)⟩

/-! ### spec_PartType: function 33 -/
def spec_PartType.f (k : Nat) (a0_0 : Int) (l0_1 : List ByteArray) (l0_2 : List (S30)) (a1 : ByteArray) : Option (Int × List ByteArray × (List (S30)) × Bool) := (spec_IndexOf.f k l0_1 a1).bind fun t524 => ((spec_IsValidType.f k a0_0 l0_1 l0_2).bind fun t525 => (if t525 = true then (if t524 < 0 then (some (0, ([] : List ByteArray), ([] : List (S30)), false)) else (if 0 ≤ t524 then (if t524 < (l0_2.length : Int) then ((spec_l3Copy.f k ((rd_T30 l0_2 t524).f0) ((rd_T30 l0_2 t524).f1) ((rd_T30 l0_2 t524).f2)).bind fun bt527 => (some (bt527.1, bt527.2.1, bt527.2.2, true))) else (none)) else (none))) else (some (0, ([] : List ByteArray), ([] : List (S30)), false))))
theorem spec_PartType.mono : ∀ a0 a1 a2 a3 k, LeO (spec_PartType.f k a0 a1 a2 a3) (spec_PartType.f (k + 1) a0 a1 a2 a3) := by
 intro a0 a1 a2 a3 k
 unfold spec_PartType.f
 repeat' first
   | (with_reducible exact spec_IndexOf.mono _ _ _)
   | (with_reducible exact spec_IsValidType.mono _ _ _ _)
   | (with_reducible exact spec_l3Copy.mono _ _ _ _)
   | (with_reducible exact LeO.refl _)
   | (with_reducible exact LeO.none _)
   | (with_reducible refine LeO.ite ?_ ?_)
   | (with_reducible refine LeO.bind ?_ (fun _ => ?_))
   | exact spec_IndexOf.mono _ _ _
   | exact spec_IsValidType.mono _ _ _ _
   | exact spec_l3Copy.mono _ _ _ _
   | exact LeO.none _
   | refine LeO.ite ?_ ?_
   | refine LeO.bind ?_ (fun _ => ?_)
set_option maxHeartbeats 8000000 in
set_option maxRecDepth 100000 in
theorem spec_PartType.calls (k : Nat) (a0_0 : Int) (A0_1 : Option Addr) (c0_1 : Nat) (l0_1 : List ByteArray) (A0_2 : Option Addr) (c0_2 : Nat) (l0_2 : List (S30)) (a1 : ByteArray) (r1 : Int) (r2 : List ByteArray) (r3 : List (S30)) (r4 : Bool) (w : World) (hr0_1 : Kd.C Kd.string w A0_1 l0_1.length l0_1) (hc0_1 : l0_1.length ≤ c0_1) (hr0_2 : Kd.C k30 w A0_2 l0_2.length l0_2) (hc0_2 : l0_2.length ≤ c0_2) (h : spec_PartType.f k a0_0 l0_1 l0_2 a1 = some (r1, r2, r3, r4)) :
  Calls Try.prog 33 #[.agg #[.int .i64 a0_0, .slice A0_1 l0_1.length c0_1, .slice A0_2 l0_2.length c0_2], .string a1] w fun e w' => ∃ v1_ v2_ : Value, e = .returned (.tuple #[.agg #[.int .i64 r1, v1_, v2_], .bool r4]) ∧ Kd.R Kd.string 9 w' w.heap.size (fun _ => True) v1_ r2 ∧ Kd.R k30 30 w' w.heap.size (fun k_ => some k_ ≠ (v1_ : Value).ownBlock) v2_ r3 ∧ Below w.heap.size w w' := by
 have hu30 := Try.underlying30
 have HR0_1 := Aside0.mk hr0_1
 have HC0_1 := Aside0.mk hc0_1
 clear hr0_1 hc0_1
 have HR0_2 := Aside0.mk hr0_2
 have HC0_2 := Aside0.mk hc0_2
 clear hr0_2 hc0_2
 have HB := Aside0.mk (Below.refl w.heap.size w)
 have H : ((spec_IndexOf.f k l0_1 a1).bind fun t524 => ((spec_IsValidType.f k a0_0 l0_1 l0_2).bind fun t525 => (if t525 = true then (if t524 < 0 then (some (0, ([] : List ByteArray), ([] : List (S30)), false)) else (if 0 ≤ t524 then (if t524 < (l0_2.length : Int) then ((spec_l3Copy.f k ((rd_T30 l0_2 t524).f0) ((rd_T30 l0_2 t524).f1) ((rd_T30 l0_2 t524).f2)).bind fun bt527 => (some (bt527.1, bt527.2.1, bt527.2.2, true))) else (none)) else (none))) else (some (0, ([] : List ByteArray), ([] : List (S30)), false))))) = some (r1, r2, r3, r4) := h
 clear h
 replace H := Option.bind_eq_some_iff.mp H
 obtain ⟨t524, A30, H⟩ := H
 replace H : ((spec_IsValidType.f k a0_0 l0_1 l0_2).bind fun t525 => (if t525 = true then (if t524 < 0 then (some (0, ([] : List ByteArray), ([] : List (S30)), false)) else (if 0 ≤ t524 then (if t524 < (l0_2.length : Int) then ((spec_l3Copy.f k ((rd_T30 l0_2 t524).f0) ((rd_T30 l0_2 t524).f1) ((rd_T30 l0_2 t524).f2)).bind fun bt527 => (some (bt527.1, bt527.2.1, bt527.2.2, true))) else (none)) else (none))) else (some (0, ([] : List ByteArray), ([] : List (S30)), false)))) = some (r1, r2, r3, r4) := H
 have A3 := Aside0.mk A30
 clear A30
 replace H := Option.bind_eq_some_iff.mp H
 obtain ⟨t525, A40, H⟩ := H
 replace H : (if t525 = true then (if t524 < 0 then (some (0, ([] : List ByteArray), ([] : List (S30)), false)) else (if 0 ≤ t524 then (if t524 < (l0_2.length : Int) then ((spec_l3Copy.f k ((rd_T30 l0_2 t524).f0) ((rd_T30 l0_2 t524).f1) ((rd_T30 l0_2 t524).f2)).bind fun bt527 => (some (bt527.1, bt527.2.1, bt527.2.2, true))) else (none)) else (none))) else (some (0, ([] : List ByteArray), ([] : List (S30)), false))) = some (r1, r2, r3, r4) := H
 have A4 := Aside0.mk A40
 clear A40
 by_cases c5 : t525 = true
 ·subst c5
  have H1 : (if t524 < 0 then (some (0, ([] : List ByteArray), ([] : List (S30)), false)) else (if 0 ≤ t524 then (if t524 < (l0_2.length : Int) then ((spec_l3Copy.f k ((rd_T30 l0_2 t524).f0) ((rd_T30 l0_2 t524).f1) ((rd_T30 l0_2 t524).f2)).bind fun bt527 => (some (bt527.1, bt527.2.1, bt527.2.2, true))) else (none)) else (none))) = some (r1, r2, r3, r4) := by rw [if_pos rfl] at H; exact H
  clear H
  have H := H1
  clear H1
  by_cases c6 : t524 < 0
  ·rw [if_pos c6] at H
   have c6b0 : decide (t524 < 0) = true := decide_eq_true c6
   clear c6
   simp only [Option.some.injEq, Prod.mk.injEq] at H
   obtain ⟨rfl, rfl, rfl, rfl⟩ := H
   go_enter Try.func33, Try.ntmps33
   go_wp2_with (first | ((with_reducible refine gate_dst (N := 2) rfl ?_); refine box_event ?hg (N := 2) ?hd (cs := #[.int .i64 a0_0, .slice A0_1 l0_1.length c0_1, .slice A0_2 l0_2.length c0_2]) (t := 30) ?hr ?_; (case hd => rfl); (case hg => rfl); (case hr => first | (go_simp; done) | (go_simp; rfl)); intro gb522 hg w7 hbox hb; have BK522 := Aside0.mk (hbox); have GW522 := Aside0.mk ((by rw [hg]; exact (below_size (B0_ HB.out)) : w.heap.size ≤ gb522)); have GE522 := Aside0.mk ((by rw [hg]; exact (below_size (B0_ HB.out)) : w.heap.size ≤ gb522)); replace HB := Aside0.mk (below_step (B0_ HB.out) hb); clear hb hbox hg) | ((with_reducible refine gate_dst (N := 4) rfl ?_); refine box_event ?hg (N := 4) ?hd (cs := #[.int .i64 0, .slice none 0 0, .slice none 0 0]) (t := 30) ?hr ?_; (case hd => rfl); (case hg => rfl); (case hr => first | (go_simp; done) | (go_simp; rfl)); intro gb523 hg w8 hbox hb; have BK523 := Aside0.mk (hbox); have GW523 := Aside0.mk ((by rw [hg]; exact (below_size (B1_ HB.out GE522.out)) : w.heap.size ≤ gb523)); have GE523 := Aside0.mk ((by rw [hg]; exact (below_size (B1_ HB.out GE522.out)) : w.heap.size ≤ gb523)); replace HB := Aside0.mk (below_step (B1_ HB.out GE522.out) hb); have NB522_523 := Aside0.mk ((by rw [hg]; exact Nat.ne_of_lt (blk_lt (K_ BK522.out)) : gb522 ≠ gb523)); have NB523_522 := Aside0.mk ((by rw [hg]; exact Nat.ne_of_gt (blk_lt (K_ BK522.out)) : gb523 ≠ gb522)); replace BK522 := kb_ BK522 hb; clear hb hbox hg; have hnb9 := NB522_523.out; have hnc9 := NB523_522.out; obtain ⟨hcz10_0, hcz10_1, hcz10_2, hfz10_0, hfz10_1, hfz10_2⟩ := box3_ BK522.out) | ((with_reducible refine gate_callee (f := 61) rfl ?_); refine goesL_ (some 10) rfl rfl Try.func61 (by kernel_rfl) rfl #[.slice A0_1 l0_1.length c0_1, .string a1] rfl ma_ ?_; (with_reducible refine (spec_IndexOf.calls k _ _ l0_1 a1 t524 _ ?side1 ?side2 A3.out).mono ?_); (case side1 => exact C_ (Kd.C_below HR0_1.out HB.out)); (case side2 => exact HC0_1.out); rintro e w' ⟨rfl, ⟨nd, rfl⟩⟩; refine ⟨_, rfl, ?_⟩; (try (rw [drewN_self w8]; generalize hq_ : World.drewN w8 _ = w8; have n0_ : Aside0 (w8.heap[gb522]? = some (.cells #[.int .i64 a0_0, .slice A0_1 l0_1.length c0_1, .slice A0_2 l0_2.length c0_2] 30 (0, 0))) := ⟨by rw [← hq_]; exact (K_ BK522.out)⟩; have n1_ : Aside0 (w8.heap[gb523]? = some (.cells #[.int .i64 0, .slice none 0 0, .slice none 0 0] 30 (0, 0))) := ⟨by rw [← hq_]; exact (K_ BK523.out)⟩; have n2_ : Aside0 (Below w.heap.size w w8) := ⟨by rw [← hq_]; exact (B2_ HB.out GE522.out GE523.out)⟩; clear BK522 BK523 HB hq_; have BK522 := n0_; have BK523 := n1_; have HB := n2_; clear n0_ n1_ n2_)); obtain ⟨hcq522_0, hcq522_1, hcq522_2, hfq522_0, hfq522_1, hfq522_2⟩ := box3_ BK522.out; obtain ⟨hcq523_0, hcq523_1, hcq523_2, hfq523_0, hfq523_1, hfq523_2⟩ := box3_ BK523.out) | ((with_reducible refine gate_callee (f := 22) rfl ?_); refine goesL_ (some 12) rfl rfl Try.func22 (by kernel_rfl) rfl #[.agg #[.int .i64 a0_0, .slice A0_1 l0_1.length c0_1, .slice A0_2 l0_2.length c0_2]] rfl ma_ ?_; (with_reducible refine (spec_IsValidType.calls k a0_0 _ _ l0_1 _ _ l0_2 true _ ?side1 ?side2 ?side3 ?side4 A4.out).mono ?_); (case side1 => exact C_ (Kd.C_below HR0_1.out HB.out)); (case side2 => exact HC0_1.out); (case side3 => exact C_ (Kd.C_below HR0_2.out HB.out)); (case side4 => exact HC0_2.out); rintro e w11 ⟨rfl, hb⟩; refine ⟨_, rfl, ?_⟩; replace BK522 := kb_ BK522 hb; replace BK523 := kb_ BK523 hb; replace HB := Aside0.mk (below_step (B2_ HB.out GE522.out GE523.out) hb); (try clear hb); (try clear hb2); (try clear hk); (try clear hi); obtain ⟨hcz12_0, hcz12_1, hcz12_2, hfz12_0, hfz12_1, hfz12_2⟩ := box3_ BK523.out))
   refine bodyPost_ret (results_ct rfl _ _ gb523 30 #[.int .i64 0, .slice none 0 0, .slice none 0 0] (0, 0) _ rfl (by (with_reducible repeat (first | refine blk_drewN ?_ _ | refine blk_drew ?_ | refine blk_alloc ?_ _)); refine blk_put (cs := #[.int .i64 0, .slice none 0 0, .slice none 0 0]) ?_ 2 _ rfl; (with_reducible repeat (first | refine blk_drewN ?_ _ | refine blk_drew ?_ | refine blk_alloc ?_ _)); refine blk_put (cs := #[.int .i64 0, .slice none 0 0, .slice none 0 0]) ?_ 1 _ rfl; (with_reducible repeat (first | refine blk_drewN ?_ _ | refine blk_drew ?_ | refine blk_alloc ?_ _)); refine blk_put (cs := #[.int .i64 0, .slice none 0 0, .slice none 0 0]) ?_ 0 _ rfl; (with_reducible repeat (first | refine blk_drewN ?_ _ | refine blk_drew ?_ | refine blk_alloc ?_ _)); exact BK523.out) Try.underlying30 rfl (by kernel_rfl)) rfl ?_
   exact ⟨_, _, er_, by first | exact Kd.R_nil _ _ _ _ _ | exact Kd.N_nil _ _ _ _ _ | exact Kd.V_nil _ _ _ _ _ | exact Kd.Q_nil _ _ _ _ _ | exact Kd.S_nil _ _ _ _ _, by first | exact Kd.R_nil _ _ _ _ _ | exact Kd.N_nil _ _ _ _ _ | exact Kd.V_nil _ _ _ _ _ | exact Kd.Q_nil _ _ _ _ _ | exact Kd.S_nil _ _ _ _ _, B2_ HB.out GE522.out GE523.out⟩
  ·rw [if_neg c6] at H
   have c6b0 : decide (t524 < 0) = false := decide_eq_false c6
   clear c6
   by_cases c13 : 0 ≤ t524
   ·rw [if_pos c13] at H
    have c13b0 : decide (0 ≤ t524) = true := decide_eq_true c13
    clear c13
    by_cases c14 : t524 < (l0_2.length : Int)
    ·rw [if_pos c14] at H
     have c14b0 : decide (t524 < (l0_2.length : Int)) = true := decide_eq_true c14
     clear c14
     replace H := Option.bind_eq_some_iff.mp H
     obtain ⟨⟨t527, t528, t531⟩, A150, H⟩ := H
     replace H : (some (t527, t528, t531, true)) = some (r1, r2, r3, r4) := H
     have A15 := Aside0.mk A150
     clear A150
     simp only [Option.some.injEq, Prod.mk.injEq] at H
     obtain ⟨rfl, rfl, rfl, rfl⟩ := H
     go_enter Try.func33, Try.ntmps33
     go_wp2_with (first | ((with_reducible refine gate_dst (N := 2) rfl ?_); refine box_event ?hg (N := 2) ?hd (cs := #[.int .i64 a0_0, .slice A0_1 l0_1.length c0_1, .slice A0_2 l0_2.length c0_2]) (t := 30) ?hr ?_; (case hd => rfl); (case hg => rfl); (case hr => first | (go_simp; done) | (go_simp; rfl)); intro gb522 hg w16 hbox hb; have BK522 := Aside0.mk (hbox); have GW522 := Aside0.mk ((by rw [hg]; exact (below_size (B0_ HB.out)) : w.heap.size ≤ gb522)); have GE522 := Aside0.mk ((by rw [hg]; exact (below_size (B0_ HB.out)) : w.heap.size ≤ gb522)); replace HB := Aside0.mk (below_step (B0_ HB.out) hb); clear hb hbox hg) | ((with_reducible refine gate_dst (N := 4) rfl ?_); refine box_event ?hg (N := 4) ?hd (cs := #[.int .i64 0, .slice none 0 0, .slice none 0 0]) (t := 30) ?hr ?_; (case hd => rfl); (case hg => rfl); (case hr => first | (go_simp; done) | (go_simp; rfl)); intro gb523 hg w17 hbox hb; have BK523 := Aside0.mk (hbox); have GW523 := Aside0.mk ((by rw [hg]; exact (below_size (B1_ HB.out GE522.out)) : w.heap.size ≤ gb523)); have GE523 := Aside0.mk ((by rw [hg]; exact (below_size (B1_ HB.out GE522.out)) : w.heap.size ≤ gb523)); replace HB := Aside0.mk (below_step (B1_ HB.out GE522.out) hb); have NB522_523 := Aside0.mk ((by rw [hg]; exact Nat.ne_of_lt (blk_lt (K_ BK522.out)) : gb522 ≠ gb523)); have NB523_522 := Aside0.mk ((by rw [hg]; exact Nat.ne_of_gt (blk_lt (K_ BK522.out)) : gb523 ≠ gb522)); replace BK522 := kb_ BK522 hb; clear hb hbox hg; have hnb18 := NB522_523.out; have hnc18 := NB523_522.out; obtain ⟨hcz19_0, hcz19_1, hcz19_2, hfz19_0, hfz19_1, hfz19_2⟩ := box3_ BK522.out) | ((with_reducible refine gate_callee (f := 61) rfl ?_); refine goesL_ (some 10) rfl rfl Try.func61 (by kernel_rfl) rfl #[.slice A0_1 l0_1.length c0_1, .string a1] rfl ma_ ?_; (with_reducible refine (spec_IndexOf.calls k _ _ l0_1 a1 t524 _ ?side1 ?side2 A3.out).mono ?_); (case side1 => exact C_ (Kd.C_below HR0_1.out HB.out)); (case side2 => exact HC0_1.out); rintro e w' ⟨rfl, ⟨nd, rfl⟩⟩; refine ⟨_, rfl, ?_⟩; (try (rw [drewN_self w17]; generalize hq_ : World.drewN w17 _ = w17; have n0_ : Aside0 (w17.heap[gb522]? = some (.cells #[.int .i64 a0_0, .slice A0_1 l0_1.length c0_1, .slice A0_2 l0_2.length c0_2] 30 (0, 0))) := ⟨by rw [← hq_]; exact (K_ BK522.out)⟩; have n1_ : Aside0 (w17.heap[gb523]? = some (.cells #[.int .i64 0, .slice none 0 0, .slice none 0 0] 30 (0, 0))) := ⟨by rw [← hq_]; exact (K_ BK523.out)⟩; have n2_ : Aside0 (Below w.heap.size w w17) := ⟨by rw [← hq_]; exact (B2_ HB.out GE522.out GE523.out)⟩; clear BK522 BK523 HB hq_; have BK522 := n0_; have BK523 := n1_; have HB := n2_; clear n0_ n1_ n2_)); obtain ⟨hcq522_0, hcq522_1, hcq522_2, hfq522_0, hfq522_1, hfq522_2⟩ := box3_ BK522.out; obtain ⟨hcq523_0, hcq523_1, hcq523_2, hfq523_0, hfq523_1, hfq523_2⟩ := box3_ BK523.out) | ((with_reducible refine gate_callee (f := 22) rfl ?_); refine goesL_ (some 12) rfl rfl Try.func22 (by kernel_rfl) rfl #[.agg #[.int .i64 a0_0, .slice A0_1 l0_1.length c0_1, .slice A0_2 l0_2.length c0_2]] rfl ma_ ?_; (with_reducible refine (spec_IsValidType.calls k a0_0 _ _ l0_1 _ _ l0_2 true _ ?side1 ?side2 ?side3 ?side4 A4.out).mono ?_); (case side1 => exact C_ (Kd.C_below HR0_1.out HB.out)); (case side2 => exact HC0_1.out); (case side3 => exact C_ (Kd.C_below HR0_2.out HB.out)); (case side4 => exact HC0_2.out); rintro e w20 ⟨rfl, hb⟩; refine ⟨_, rfl, ?_⟩; replace BK522 := kb_ BK522 hb; replace BK523 := kb_ BK523 hb; replace HB := Aside0.mk (below_step (B2_ HB.out GE522.out GE523.out) hb); (try clear hb); (try clear hb2); (try clear hk); (try clear hi); obtain ⟨hcz21_0, hcz21_1, hcz21_2, hfz21_0, hfz21_1, hfz21_2⟩ := box3_ BK522.out; have p526 : 0 ≤ (t524 : Int) := de_; have q526 : t524 < (l0_2.length : Int) := de_; obtain ⟨ad526, A526_1, c526_1, A526_2, c526_2, e526, hx526_0, hx526_1, hx526_2, hl526_1, hi526_1, hl526_2, hi526_2⟩ := at_T30 HR0_2.out t524 p526 q526; cases e526; replace hx526_0 := (HB.out.cell (World.block_lt_of_cell? w _ hx526_0)).trans hx526_0; replace hx526_1 := (HB.out.cell (World.block_lt_of_cell? w _ hx526_1)).trans hx526_1; replace hx526_2 := (HB.out.cell (World.block_lt_of_cell? w _ hx526_2)).trans hx526_2; have HR526_1 := Aside0.mk hi526_1; have HC526_1 := Aside0.mk hl526_1; clear hi526_1 hl526_1; have HR526_2 := Aside0.mk hi526_2; have HC526_2 := Aside0.mk hl526_2; clear hi526_2 hl526_2; replace p526 := eq_true p526; replace q526 := eq_true q526) | ((with_reducible refine gate_callee (f := 57) rfl ?_); refine goesL_ (some 24) rfl rfl Try.func57 (by kernel_rfl) rfl #[.agg #[.int .i64 ((rd_T30 l0_2 t524).f0), .slice A526_1 ((rd_T30 l0_2 t524).f1).length c526_1, .slice A526_2 ((rd_T30 l0_2 t524).f2).length c526_2]] rfl ma_ ?_; (with_reducible refine (spec_l3Copy.calls k ((rd_T30 l0_2 t524).f0) _ _ ((rd_T30 l0_2 t524).f1) _ _ ((rd_T30 l0_2 t524).f2) t527 t528 t531 _ ?side1 ?side2 ?side3 ?side4 A15.out).mono ?_); (case side1 => exact C_ (Kd.C_below HR526_1.out HB.out)); (case side2 => exact HC526_1.out); (case side3 => exact C_ (Kd.C_below HR526_2.out HB.out)); (case side4 => exact HC526_2.out); rintro e w22 ⟨v529, v532, rfl, ho0, ho1, hb⟩; refine ⟨_, rfl, ?_⟩; have HO530 := Aside0.mk (Kd.R_lower ho0 (below_size (B2_ HB.out GE522.out GE523.out))); have HO533 := Aside0.mk (Kd.R_lower (Kd.R_newB (Kd.R_newB ho1 (g := gb522) (o := .cells #[.int .i64 a0_0, .slice A0_1 l0_1.length c0_1, .slice (some ad526) l0_2.length c0_2] 30 (0, 0)) (K_ BK522.out)) (g := gb523) (o := .cells #[.int .i64 0, .slice none 0 0, .slice none 0 0] 30 (0, 0)) (K_ BK523.out)) (below_size (B2_ HB.out GE522.out GE523.out))); replace BK522 := kb_ BK522 hb; replace BK523 := kb_ BK523 hb; replace HB := Aside0.mk (below_step (B2_ HB.out GE522.out GE523.out) hb); (try clear hb); (try clear hb2); (try clear hk); (try clear hi); (try clear ho0); (try clear ho1); obtain ⟨hcz23_0, hcz23_1, hcz23_2, hfz23_0, hfz23_1, hfz23_2⟩ := box3_ BK523.out; obtain ⟨Ao24, co24, eo24⟩ := Kd.R_slice HO530.out; subst eo24; obtain ⟨Ao25, co25, eo25⟩ := Kd.R_slice HO533.out; subst eo25))
     refine bodyPost_ret (results_ct rfl _ _ gb523 30 #[.int .i64 t527, .slice Ao24 t528.length co24, .slice Ao25 t531.length co25] (0, 0) _ rfl (by (with_reducible repeat (first | refine blk_drewN ?_ _ | refine blk_drew ?_ | refine blk_alloc ?_ _)); refine blk_put (cs := #[.int .i64 t527, .slice Ao24 t528.length co24, .slice none 0 0]) ?_ 2 _ rfl; (with_reducible repeat (first | refine blk_drewN ?_ _ | refine blk_drew ?_ | refine blk_alloc ?_ _)); refine blk_put (cs := #[.int .i64 t527, .slice none 0 0, .slice none 0 0]) ?_ 1 _ rfl; (with_reducible repeat (first | refine blk_drewN ?_ _ | refine blk_drew ?_ | refine blk_alloc ?_ _)); refine blk_put (cs := #[.int .i64 0, .slice none 0 0, .slice none 0 0]) ?_ 0 _ rfl; (with_reducible repeat (first | refine blk_drewN ?_ _ | refine blk_drew ?_ | refine blk_alloc ?_ _)); exact BK523.out) Try.underlying30 rfl (by kernel_rfl)) rfl ?_
     exact ⟨_, _, er_, by (with_reducible repeat (first | apply Kd.R_alloc | apply Kd.R_drewN | apply Kd.R_drew)); exact Kd.R_mono (Kd.R_far (p := ⟨gb523, 2, none⟩) (Kd.R_far (p := ⟨gb523, 1, none⟩) (Kd.R_far (p := ⟨gb523, 0, none⟩) (Kd.R_types HO530.out BK523.out (by decide)) (fun _ hk => hk.2) (.int .i64 t527)) (fun _ hk => hk.2) (.slice Ao24 t528.length co24)) (fun _ hk => hk.2) (.slice Ao25 t531.length co25)) (fun _ hk => trivial), by (with_reducible repeat (first | apply Kd.R_alloc | apply Kd.R_drewN | apply Kd.R_drew)); exact Kd.R_mono (Kd.R_far (p := ⟨gb523, 2, none⟩) (Kd.R_far (p := ⟨gb523, 1, none⟩) (Kd.R_far (p := ⟨gb523, 0, none⟩) (Kd.R_mono HO533.out (fun k_ hk => (⟨hk, hk.2⟩ : _ ∧ k_ ≠ gb523))) (fun _ hk => hk.2) (.int .i64 t527)) (fun _ hk => hk.2) (.slice Ao24 t528.length co24)) (fun _ hk => hk.2) (.slice Ao25 t531.length co25)) (fun _ hk => hk.1.1.1), B2_ HB.out GE522.out GE523.out⟩
    ·rw [if_neg c14] at H
     exact absurd H (by simp)
   ·rw [if_neg c13] at H
    exact absurd H (by simp)
 ·replace c5 := Bool.eq_false_iff.mpr c5
  subst c5
  have H1 : (some (0, ([] : List ByteArray), ([] : List (S30)), false)) = some (r1, r2, r3, r4) := by rw [if_neg (show ¬ (false = true) by decide)] at H; exact H
  clear H
  have H := H1
  clear H1
  simp only [Option.some.injEq, Prod.mk.injEq] at H
  obtain ⟨rfl, rfl, rfl, rfl⟩ := H
  go_enter Try.func33, Try.ntmps33
  go_wp2_with (first | ((with_reducible refine gate_dst (N := 2) rfl ?_); refine box_event ?hg (N := 2) ?hd (cs := #[.int .i64 a0_0, .slice A0_1 l0_1.length c0_1, .slice A0_2 l0_2.length c0_2]) (t := 30) ?hr ?_; (case hd => rfl); (case hg => rfl); (case hr => first | (go_simp; done) | (go_simp; rfl)); intro gb522 hg w26 hbox hb; have BK522 := Aside0.mk (hbox); have GW522 := Aside0.mk ((by rw [hg]; exact (below_size (B0_ HB.out)) : w.heap.size ≤ gb522)); have GE522 := Aside0.mk ((by rw [hg]; exact (below_size (B0_ HB.out)) : w.heap.size ≤ gb522)); replace HB := Aside0.mk (below_step (B0_ HB.out) hb); clear hb hbox hg) | ((with_reducible refine gate_dst (N := 4) rfl ?_); refine box_event ?hg (N := 4) ?hd (cs := #[.int .i64 0, .slice none 0 0, .slice none 0 0]) (t := 30) ?hr ?_; (case hd => rfl); (case hg => rfl); (case hr => first | (go_simp; done) | (go_simp; rfl)); intro gb523 hg w27 hbox hb; have BK523 := Aside0.mk (hbox); have GW523 := Aside0.mk ((by rw [hg]; exact (below_size (B1_ HB.out GE522.out)) : w.heap.size ≤ gb523)); have GE523 := Aside0.mk ((by rw [hg]; exact (below_size (B1_ HB.out GE522.out)) : w.heap.size ≤ gb523)); replace HB := Aside0.mk (below_step (B1_ HB.out GE522.out) hb); have NB522_523 := Aside0.mk ((by rw [hg]; exact Nat.ne_of_lt (blk_lt (K_ BK522.out)) : gb522 ≠ gb523)); have NB523_522 := Aside0.mk ((by rw [hg]; exact Nat.ne_of_gt (blk_lt (K_ BK522.out)) : gb523 ≠ gb522)); replace BK522 := kb_ BK522 hb; clear hb hbox hg; have hnb28 := NB522_523.out; have hnc28 := NB523_522.out; obtain ⟨hcz29_0, hcz29_1, hcz29_2, hfz29_0, hfz29_1, hfz29_2⟩ := box3_ BK522.out) | ((with_reducible refine gate_callee (f := 61) rfl ?_); refine goesL_ (some 10) rfl rfl Try.func61 (by kernel_rfl) rfl #[.slice A0_1 l0_1.length c0_1, .string a1] rfl ma_ ?_; (with_reducible refine (spec_IndexOf.calls k _ _ l0_1 a1 t524 _ ?side1 ?side2 A3.out).mono ?_); (case side1 => exact C_ (Kd.C_below HR0_1.out HB.out)); (case side2 => exact HC0_1.out); rintro e w' ⟨rfl, ⟨nd, rfl⟩⟩; refine ⟨_, rfl, ?_⟩; (try (rw [drewN_self w27]; generalize hq_ : World.drewN w27 _ = w27; have n0_ : Aside0 (w27.heap[gb522]? = some (.cells #[.int .i64 a0_0, .slice A0_1 l0_1.length c0_1, .slice A0_2 l0_2.length c0_2] 30 (0, 0))) := ⟨by rw [← hq_]; exact (K_ BK522.out)⟩; have n1_ : Aside0 (w27.heap[gb523]? = some (.cells #[.int .i64 0, .slice none 0 0, .slice none 0 0] 30 (0, 0))) := ⟨by rw [← hq_]; exact (K_ BK523.out)⟩; have n2_ : Aside0 (Below w.heap.size w w27) := ⟨by rw [← hq_]; exact (B2_ HB.out GE522.out GE523.out)⟩; clear BK522 BK523 HB hq_; have BK522 := n0_; have BK523 := n1_; have HB := n2_; clear n0_ n1_ n2_)); obtain ⟨hcq522_0, hcq522_1, hcq522_2, hfq522_0, hfq522_1, hfq522_2⟩ := box3_ BK522.out; obtain ⟨hcq523_0, hcq523_1, hcq523_2, hfq523_0, hfq523_1, hfq523_2⟩ := box3_ BK523.out) | ((with_reducible refine gate_callee (f := 22) rfl ?_); refine goesL_ (some 12) rfl rfl Try.func22 (by kernel_rfl) rfl #[.agg #[.int .i64 a0_0, .slice A0_1 l0_1.length c0_1, .slice A0_2 l0_2.length c0_2]] rfl ma_ ?_; (with_reducible refine (spec_IsValidType.calls k a0_0 _ _ l0_1 _ _ l0_2 false _ ?side1 ?side2 ?side3 ?side4 A4.out).mono ?_); (case side1 => exact C_ (Kd.C_below HR0_1.out HB.out)); (case side2 => exact HC0_1.out); (case side3 => exact C_ (Kd.C_below HR0_2.out HB.out)); (case side4 => exact HC0_2.out); rintro e w30 ⟨rfl, hb⟩; refine ⟨_, rfl, ?_⟩; replace BK522 := kb_ BK522 hb; replace BK523 := kb_ BK523 hb; replace HB := Aside0.mk (below_step (B2_ HB.out GE522.out GE523.out) hb); (try clear hb); (try clear hb2); (try clear hk); (try clear hi); obtain ⟨hcz31_0, hcz31_1, hcz31_2, hfz31_0, hfz31_1, hfz31_2⟩ := box3_ BK523.out))
  refine bodyPost_ret (results_ct rfl _ _ gb523 30 #[.int .i64 0, .slice none 0 0, .slice none 0 0] (0, 0) _ rfl (by (with_reducible repeat (first | refine blk_drewN ?_ _ | refine blk_drew ?_ | refine blk_alloc ?_ _)); refine blk_put (cs := #[.int .i64 0, .slice none 0 0, .slice none 0 0]) ?_ 2 _ rfl; (with_reducible repeat (first | refine blk_drewN ?_ _ | refine blk_drew ?_ | refine blk_alloc ?_ _)); refine blk_put (cs := #[.int .i64 0, .slice none 0 0, .slice none 0 0]) ?_ 1 _ rfl; (with_reducible repeat (first | refine blk_drewN ?_ _ | refine blk_drew ?_ | refine blk_alloc ?_ _)); refine blk_put (cs := #[.int .i64 0, .slice none 0 0, .slice none 0 0]) ?_ 0 _ rfl; (with_reducible repeat (first | refine blk_drewN ?_ _ | refine blk_drew ?_ | refine blk_alloc ?_ _)); exact BK523.out) Try.underlying30 rfl (by kernel_rfl)) rfl ?_
  exact ⟨_, _, er_, by first | exact Kd.R_nil _ _ _ _ _ | exact Kd.N_nil _ _ _ _ _ | exact Kd.V_nil _ _ _ _ _ | exact Kd.Q_nil _ _ _ _ _ | exact Kd.S_nil _ _ _ _ _, by first | exact Kd.R_nil _ _ _ _ _ | exact Kd.N_nil _ _ _ _ _ | exact Kd.V_nil _ _ _ _ _ | exact Kd.Q_nil _ _ _ _ _ | exact Kd.S_nil _ _ _ _ _, B2_ HB.out GE522.out GE523.out⟩

end Go.Proofs.Ytingaflikkeefaa.XB
