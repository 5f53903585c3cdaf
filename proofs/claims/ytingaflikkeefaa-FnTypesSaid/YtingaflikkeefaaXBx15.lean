-- Written by myprint.py, a program of this session, which runs the kit's printer with changes of its own. Lean checks it.
import Derived.Test.YtingaflikkeefaaXBx0
import Derived.Test.YtingaflikkeefaaXBx10
import Derived.Test.YtingaflikkeefaaXBx11
import Derived.Test.YtingaflikkeefaaXBx14
import Derived.Test.YtingaflikkeefaaSq
namespace Go.Proofs.Ytingaflikkeefaa.XB
open Go.RowKit Go.Proofs.YtingaflikkeefaaW.PrintWords Go.Proofs.YtingaflikkeefaaW.PrintLast Go.Proofs.YtingaflikkeefaaW.PrintMore Go.Proofs.Ytingaflikkeefaa.Sq
attribute [local go_sem] max2_int min2_int max_two min_two max_three min_three max_four min_four   -- for this text's walks alone
set_option linter.unusedVariables false
set_option linter.unusedSimpArgs false

/-! ### spec_DrawIsValidType: function 29 -/
def spec_DrawIsValidType.f (k : Nat) (l0 : List Int) : Option (Int × List ByteArray × (List (S30))) := (spec_l1New.f k l0).bind fun bt418 => ((spec_l3Bent.f k bt418.1 bt418.2.1 bt418.2.2).bind fun bt422 => (some (bt422.1, bt422.2.1, bt422.2.2.1)))
theorem spec_DrawIsValidType.mono : ∀ a0 k, LeO (spec_DrawIsValidType.f k a0) (spec_DrawIsValidType.f (k + 1) a0) := by
 intro a0 k
 unfold spec_DrawIsValidType.f
 repeat' first
   | (with_reducible exact spec_l1New.mono _ _)
   | (with_reducible exact spec_l3Bent.mono _ _ _ _)
   | (with_reducible exact LeO.refl _)
   | (with_reducible exact LeO.none _)
   | (with_reducible refine LeO.ite ?_ ?_)
   | (with_reducible refine LeO.bind ?_ (fun _ => ?_))
   | exact spec_l1New.mono _ _
   | exact spec_l3Bent.mono _ _ _ _
   | exact LeO.none _
   | refine LeO.ite ?_ ?_
   | refine LeO.bind ?_ (fun _ => ?_)
set_option maxHeartbeats 8000000 in
set_option maxRecDepth 100000 in
theorem spec_DrawIsValidType.calls (k : Nat) (A0 : Option Addr) (c0 : Nat) (l0 : List Int) (r1 : Int) (r2 : List ByteArray) (r3 : List (S30)) (w : World) (hr0 : Kd.C (Kd.int .u8) w A0 l0.length l0) (hc0 : l0.length ≤ c0) (h : spec_DrawIsValidType.f k l0 = some (r1, r2, r3)) :
  Calls Try.prog 29 #[.slice A0 l0.length c0] w fun e w' => ∃ v1_ v2_ : Value, e = .returned (.agg #[.int .i64 r1, v1_, v2_]) ∧ Kd.R Kd.string 9 w' w.heap.size (fun k_ => (w.heap.size ≤ k_)) v1_ r2 ∧ Kd.N k30 30 w' w.heap.size (fun k_ => (w.heap.size ≤ k_) ∧ some k_ ≠ (v1_ : Value).ownBlock) v2_ r3 ∧ Below w.heap.size w w' := by
 have hu30 := Try.underlying30
 have HR0 := Aside0.mk hr0
 have HC0 := Aside0.mk hc0
 clear hr0 hc0
 have HB := Aside0.mk (Below.refl w.heap.size w)
 have H : ((spec_l1New.f k l0).bind fun bt418 => ((spec_l3Bent.f k bt418.1 bt418.2.1 bt418.2.2).bind fun bt422 => (some (bt422.1, bt422.2.1, bt422.2.2.1)))) = some (r1, r2, r3) := h
 clear h
 replace H := Option.bind_eq_some_iff.mp H
 obtain ⟨⟨t418, t419, t420⟩, A20, H⟩ := H
 replace H : ((spec_l3Bent.f k t418 t419 t420).bind fun bt422 => (some (bt422.1, bt422.2.1, bt422.2.2.1))) = some (r1, r2, r3) := H
 have A2 := Aside0.mk A20
 clear A20
 replace H := Option.bind_eq_some_iff.mp H
 obtain ⟨⟨t422, t423, t426, t429, t430⟩, A30, H⟩ := H
 replace H : (some (t422, t423, t426)) = some (r1, r2, r3) := H
 have A3 := Aside0.mk A30
 clear A30
 simp only [Option.some.injEq, Prod.mk.injEq] at H
 obtain ⟨rfl, rfl, rfl⟩ := H
 go_enter Try.func29, Try.ntmps29
 go_wp2_with (first | ((with_reducible refine gate_dst (N := 2) rfl ?_); refine box_event ?hg (N := 2) ?hd (cs := #[.int .i64 0, .slice none 0 0, .slice none 0 0]) (t := 30) ?hr ?_; (case hd => rfl); (case hg => rfl); (case hr => first | (go_simp; done) | (go_simp; rfl)); intro gb417 hg w4 hbox hb; have BK417 := Aside0.mk (hbox); have GW417 := Aside0.mk ((by rw [hg]; exact (below_size (B0_ HB.out)) : w.heap.size ≤ gb417)); have GE417 := Aside0.mk ((by rw [hg]; exact (below_size (B0_ HB.out)) : w.heap.size ≤ gb417)); replace HB := Aside0.mk (below_step (B0_ HB.out) hb); clear hb hbox hg) | ((with_reducible refine gate_callee (f := 55) rfl ?_); refine goesL_ (some 4) rfl rfl Try.func55 (by kernel_rfl) rfl #[.slice A0 l0.length c0] rfl ma_ ?_; (with_reducible refine (spec_l1New.calls k _ _ l0 t418 t419 t420 w _ ?side1 ?side2 ?side3 A2.out).mono ?_); (case side1 => repeat (first | (with_reducible first | exact HB.out | apply below_alloc | apply pw_below_drewN | apply below_drew1 | refine below_set ?_ GE417.out) | exact HB.out)); (case side2 => exact HR0.out); (case side3 => exact HC0.out); rintro e w5 ⟨g421, rfl, hi, hb, hb2⟩; refine ⟨_, rfl, ?_⟩; replace HB := Aside0.mk (hb); have HI421 := Aside0.mk (hi); have NB421_417 := Aside0.mk (IsS81.ne_blk hi (blk_below (K_ BK417.out) hb2) (by decide)); have NB417_421 := Aside0.mk (Ne.symm (IsS81.ne_blk hi (blk_below (K_ BK417.out) hb2) (by decide))); replace BK417 := Aside0.mk (blk_below (K_ BK417.out) hb2); (try clear hb); (try clear hb2); (try clear hk); (try clear hi)) | ((with_reducible refine gate_callee (f := 54) rfl ?_); refine goesL_ (some 5) rfl rfl Try.func54 (by kernel_rfl) rfl #[.pointer (some ⟨g421, 0, none⟩)] rfl ma_ ?_; (with_reducible refine (spec_l3Bent.calls k g421 t418 t419 t420 t422 t423 t426 t429 t430 w _ ?side1 ?side2 A3.out).mono ?_); (case side1 => repeat (first | (with_reducible first | exact HI421.out | apply IsS81.alloc | apply IsS81.drewN | apply IsS81.drew | apply IsS81.set_1 | apply IsS81.set_2 | refine IsS81.far ?_ NB421_417.out _) | exact HI421.out)); (case side2 => repeat (first | (with_reducible first | exact HB.out | apply below_alloc | apply pw_below_drewN | apply below_drew1 | refine below_set ?_ (IsS81.ge HI421.out) | refine below_set ?_ GE417.out) | exact HB.out)); rintro e w6 ⟨v424, v427, rfl, ho0, ho1, hi, hb, hk⟩; refine ⟨_, rfl, ?_⟩; have HO425 := Aside0.mk (Kd.R_lower (Kd.R_newM (M := fun k_ => (w.heap.size ≤ k_)) (Kd.R_mono (ok' := fun k_ => True) ho0 (fun _ hk_ => trivial)) (below_size (B2_ HB.out (IsS81.ge HI421.out) GE417.out)) (fun k_ h_ => h_)) (below_size (B2_ HB.out (IsS81.ge HI421.out) GE417.out))); have HO428 := Aside0.mk (Kd.N_lower (Kd.N_mono (ok' := fun k_ => (w.heap.size ≤ k_) ∧ some k_ ≠ (v424 : Value).ownBlock ∧ k_ ≠ gb417 ∧ k_ ≠ g421) ho1 (fun k_ hk_ => ⟨(Nat.le_trans (below_size (B2_ HB.out (IsS81.ge HI421.out) GE417.out)) hk_.1), hk_.2, (Kd.freshB (K_ BK417.out) k_ hk_.1), (IsS81.fresh (i81a1_ HI421.out NB421_417.out) k_ hk_.1)⟩)) (below_size (B2_ HB.out (IsS81.ge HI421.out) GE417.out))); replace BK417 := Aside0.mk (KeepBut.blk hk (g' := gb417) (o := .cells #[.int .i64 0, .slice none 0 0, .slice none 0 0] 30 (0, 0)) (K_ BK417.out) NB417_421.out (by simp)); replace HB := Aside0.mk (hb); replace HI421 := Aside0.mk (hi); (try clear hb); (try clear hb2); (try clear hk); (try clear hi); (try clear ho0); (try clear ho1); have hnb7 := NB417_421.out; have hnc7 := NB421_417.out; obtain ⟨hcz8_0, hcz8_1, hcz8_2, hfz8_0, hfz8_1, hfz8_2⟩ := box3_ BK417.out; obtain ⟨Ao9, co9, eo9⟩ := Kd.R_slice HO425.out; subst eo9; obtain ⟨Ao10, co10, eo10⟩ := Kd.N_slice HO428.out; subst eo10))
 refine bodyPost_ret (results_cell_row rfl _ _ gb417 30 #[.int .i64 t422, .slice Ao9 t423.length co9, .slice Ao10 t426.length co10] (0, 0) _ rfl (by (with_reducible repeat (first | refine blk_drewN ?_ _ | refine blk_drew ?_ | refine blk_alloc ?_ _)); refine blk_put (cs := #[.int .i64 t422, .slice Ao9 t423.length co9, .slice none 0 0]) ?_ 2 _ rfl; (with_reducible repeat (first | refine blk_drewN ?_ _ | refine blk_drew ?_ | refine blk_alloc ?_ _)); refine blk_put (cs := #[.int .i64 t422, .slice none 0 0, .slice none 0 0]) ?_ 1 _ rfl; (with_reducible repeat (first | refine blk_drewN ?_ _ | refine blk_drew ?_ | refine blk_alloc ?_ _)); refine blk_put (cs := #[.int .i64 0, .slice none 0 0, .slice none 0 0]) ?_ 0 _ rfl; (with_reducible repeat (first | refine blk_drewN ?_ _ | refine blk_drew ?_ | refine blk_alloc ?_ _)); exact BK417.out) Try.underlying30 rfl (by kernel_rfl)) rfl ?_
 exact ⟨_, _, er_, by (with_reducible repeat (first | apply Kd.R_alloc | apply Kd.R_drewN | apply Kd.R_drew)); exact Kd.R_mono (Kd.R_far (p := ⟨gb417, 2, none⟩) (Kd.R_far (p := ⟨gb417, 1, none⟩) (Kd.R_far (p := ⟨gb417, 0, none⟩) (Kd.R_types HO425.out BK417.out (by decide)) (fun _ hk => hk.2) (.int .i64 t422)) (fun _ hk => hk.2) (.slice Ao9 t423.length co9)) (fun _ hk => hk.2) (.slice Ao10 t426.length co10)) (fun _ hk => hk.1.1), by (with_reducible repeat (first | apply Kd.N_alloc | apply Kd.N_drewN | apply Kd.N_drew)); exact Kd.N_mono (Kd.N_far (p := ⟨gb417, 2, none⟩) (Kd.N_far (p := ⟨gb417, 1, none⟩) (Kd.N_far (p := ⟨gb417, 0, none⟩) (Kd.N_mono HO428.out (fun k_ hk => (⟨hk, hk.2.2.1⟩ : _ ∧ k_ ≠ gb417))) (fun _ hk => hk.2) (.int .i64 t422)) (fun _ hk => hk.2) (.slice Ao9 t423.length co9)) (fun _ hk => hk.2) (.slice Ao10 t426.length co10)) (fun _ hk => ⟨hk.1.1, hk.1.2.1⟩), B2_ HB.out (IsS81.ge HI421.out) GE417.out⟩

/-! ### spec_DrawEqualType: function 30 -/
def spec_DrawEqualType.f (k : Nat) (l0 : List Int) : Option (Int × List ByteArray × (List (S30)) × Int × List ByteArray × (List (S30))) := (spec_l1New.f k l0).bind fun bt433 => ((spec_l3Bent.f k bt433.1 bt433.2.1 bt433.2.2).bind fun bt437 => ((spec_l1Once.f bt433.1 bt437.2.2.2.1 bt437.2.2.2.2 2).bind fun bt447 => (if bt447.1 = true then ((spec_l3Copy.f k bt437.1 bt437.2.1 bt437.2.2.1).bind fun bt450 => (some (bt437.1, bt437.2.1, bt437.2.2.1, bt450.1, bt450.2.1, bt450.2.2))) else ((spec_l3Bent.f k bt433.1 bt447.2.1 bt447.2.2).bind fun bt457 => (some (bt437.1, bt437.2.1, bt437.2.2.1, bt457.1, bt457.2.1, bt457.2.2.1))))))
theorem spec_DrawEqualType.mono : ∀ a0 k, LeO (spec_DrawEqualType.f k a0) (spec_DrawEqualType.f (k + 1) a0) := by
 intro a0 k
 unfold spec_DrawEqualType.f
 repeat' first
   | (with_reducible exact spec_l1New.mono _ _)
   | (with_reducible exact spec_l3Bent.mono _ _ _ _)
   | (with_reducible exact spec_l3Copy.mono _ _ _ _)
   | (with_reducible exact LeO.refl _)
   | (with_reducible exact LeO.none _)
   | (with_reducible refine LeO.ite ?_ ?_)
   | (with_reducible refine LeO.bind ?_ (fun _ => ?_))
   | exact spec_l1New.mono _ _
   | exact spec_l3Bent.mono _ _ _ _
   | exact spec_l3Copy.mono _ _ _ _
   | exact LeO.none _
   | refine LeO.ite ?_ ?_
   | refine LeO.bind ?_ (fun _ => ?_)
set_option maxHeartbeats 8000000 in
set_option maxRecDepth 100000 in
theorem spec_DrawEqualType.calls (k : Nat) (A0 : Option Addr) (c0 : Nat) (l0 : List Int) (r1 : Int) (r2 : List ByteArray) (r3 : List (S30)) (r4 : Int) (r5 : List ByteArray) (r6 : List (S30)) (w : World) (hr0 : Kd.C (Kd.int .u8) w A0 l0.length l0) (hc0 : l0.length ≤ c0) (h : spec_DrawEqualType.f k l0 = some (r1, r2, r3, r4, r5, r6)) :
  Calls Try.prog 30 #[.slice A0 l0.length c0] w fun e w' => ∃ v1_ v2_ v4_ v5_ : Value, e = .returned (.tuple #[.agg #[.int .i64 r1, v1_, v2_], .agg #[.int .i64 r4, v4_, v5_]]) ∧ Kd.R Kd.string 9 w' w.heap.size (fun k_ => (w.heap.size ≤ k_) ∧ some k_ ≠ (v4_ : Value).ownBlock) v1_ r2 ∧ Kd.N k30 30 w' w.heap.size (fun k_ => (w.heap.size ≤ k_) ∧ some k_ ≠ (v1_ : Value).ownBlock ∧ some k_ ≠ (v4_ : Value).ownBlock ∧ some k_ ≠ (v5_ : Value).ownBlock) v2_ r3 ∧ Kd.R Kd.string 9 w' w.heap.size (fun k_ => (w.heap.size ≤ k_) ∧ some k_ ≠ (v1_ : Value).ownBlock) v4_ r5 ∧ Kd.N k30 30 w' w.heap.size (fun k_ => (w.heap.size ≤ k_) ∧ some k_ ≠ (v1_ : Value).ownBlock ∧ some k_ ≠ (v2_ : Value).ownBlock ∧ some k_ ≠ (v4_ : Value).ownBlock) v5_ r6 ∧ Below w.heap.size w w' := by
 have hu30 := Try.underlying30
 have HR0 := Aside0.mk hr0
 have HC0 := Aside0.mk hc0
 clear hr0 hc0
 have HB := Aside0.mk (Below.refl w.heap.size w)
 have H : ((spec_l1New.f k l0).bind fun bt433 => ((spec_l3Bent.f k bt433.1 bt433.2.1 bt433.2.2).bind fun bt437 => ((spec_l1Once.f bt433.1 bt437.2.2.2.1 bt437.2.2.2.2 2).bind fun bt447 => (if bt447.1 = true then ((spec_l3Copy.f k bt437.1 bt437.2.1 bt437.2.2.1).bind fun bt450 => (some (bt437.1, bt437.2.1, bt437.2.2.1, bt450.1, bt450.2.1, bt450.2.2))) else ((spec_l3Bent.f k bt433.1 bt447.2.1 bt447.2.2).bind fun bt457 => (some (bt437.1, bt437.2.1, bt437.2.2.1, bt457.1, bt457.2.1, bt457.2.2.1))))))) = some (r1, r2, r3, r4, r5, r6) := h
 clear h
 replace H := Option.bind_eq_some_iff.mp H
 obtain ⟨⟨t433, t434, t435⟩, A20, H⟩ := H
 replace H : ((spec_l3Bent.f k t433 t434 t435).bind fun bt437 => ((spec_l1Once.f t433 bt437.2.2.2.1 bt437.2.2.2.2 2).bind fun bt447 => (if bt447.1 = true then ((spec_l3Copy.f k bt437.1 bt437.2.1 bt437.2.2.1).bind fun bt450 => (some (bt437.1, bt437.2.1, bt437.2.2.1, bt450.1, bt450.2.1, bt450.2.2))) else ((spec_l3Bent.f k t433 bt447.2.1 bt447.2.2).bind fun bt457 => (some (bt437.1, bt437.2.1, bt437.2.2.1, bt457.1, bt457.2.1, bt457.2.2.1)))))) = some (r1, r2, r3, r4, r5, r6) := H
 have A2 := Aside0.mk A20
 clear A20
 replace H := Option.bind_eq_some_iff.mp H
 obtain ⟨⟨t437, t438, t441, t444, t445⟩, A30, H⟩ := H
 replace H : ((spec_l1Once.f t433 t444 t445 2).bind fun bt447 => (if bt447.1 = true then ((spec_l3Copy.f k t437 t438 t441).bind fun bt450 => (some (t437, t438, t441, bt450.1, bt450.2.1, bt450.2.2))) else ((spec_l3Bent.f k t433 bt447.2.1 bt447.2.2).bind fun bt457 => (some (t437, t438, t441, bt457.1, bt457.2.1, bt457.2.2.1))))) = some (r1, r2, r3, r4, r5, r6) := H
 have A3 := Aside0.mk A30
 clear A30
 replace H := Option.bind_eq_some_iff.mp H
 obtain ⟨⟨t447, t448, t449⟩, A40, H⟩ := H
 replace H : (if t447 = true then ((spec_l3Copy.f k t437 t438 t441).bind fun bt450 => (some (t437, t438, t441, bt450.1, bt450.2.1, bt450.2.2))) else ((spec_l3Bent.f k t433 t448 t449).bind fun bt457 => (some (t437, t438, t441, bt457.1, bt457.2.1, bt457.2.2.1)))) = some (r1, r2, r3, r4, r5, r6) := H
 have A4 := Aside0.mk A40
 clear A40
 by_cases c5 : t447 = true
 ·subst c5
  have H1 : ((spec_l3Copy.f k t437 t438 t441).bind fun bt450 => (some (t437, t438, t441, bt450.1, bt450.2.1, bt450.2.2))) = some (r1, r2, r3, r4, r5, r6) := by rw [if_pos rfl] at H; exact H
  clear H
  have H := H1
  clear H1
  replace H := Option.bind_eq_some_iff.mp H
  obtain ⟨⟨t450, t451, t454⟩, A60, H⟩ := H
  replace H : (some (t437, t438, t441, t450, t451, t454)) = some (r1, r2, r3, r4, r5, r6) := H
  have A6 := Aside0.mk A60
  clear A60
  simp only [Option.some.injEq, Prod.mk.injEq] at H
  obtain ⟨rfl, rfl, rfl, rfl, rfl, rfl⟩ := H
  go_enter Try.func30, Try.ntmps30
  try go_wp2_with (first | ((with_reducible refine gate_dst (N := 2) rfl ?_); refine box_event ?hg (N := 2) ?hd (cs := #[.int .i64 0, .slice none 0 0, .slice none 0 0]) (t := 30) ?hr ?_; (case hd => rfl); (case hg => rfl); (case hr => first | (go_simp; done) | (go_simp; rfl)); intro gb431 hg w7 hbox hb; have BK431 := Aside0.mk (hbox); have GW431 := Aside0.mk ((by rw [hg]; exact (below_size (B0_ HB.out)) : w.heap.size ≤ gb431)); have GE431 := Aside0.mk ((by rw [hg]; exact (below_size (B0_ HB.out)) : w.heap.size ≤ gb431)); replace HB := Aside0.mk (below_step (B0_ HB.out) hb); clear hb hbox hg) | ((with_reducible refine gate_dst (N := 3) rfl ?_); refine box_event ?hg (N := 3) ?hd (cs := #[.int .i64 0, .slice none 0 0, .slice none 0 0]) (t := 30) ?hr ?_; (case hd => rfl); (case hg => rfl); (case hr => first | (go_simp; done) | (go_simp; rfl)); intro gb432 hg w8 hbox hb; have BK432 := Aside0.mk (hbox); have GW432 := Aside0.mk ((by rw [hg]; exact (below_size (B1_ HB.out GE431.out)) : w.heap.size ≤ gb432)); have GE432 := Aside0.mk ((by rw [hg]; exact (below_size (B1_ HB.out GE431.out)) : w.heap.size ≤ gb432)); replace HB := Aside0.mk (below_step (B1_ HB.out GE431.out) hb); have NB431_432 := Aside0.mk ((by rw [hg]; exact Nat.ne_of_lt (blk_lt (K_ BK431.out)) : gb431 ≠ gb432)); have NB432_431 := Aside0.mk ((by rw [hg]; exact Nat.ne_of_gt (blk_lt (K_ BK431.out)) : gb432 ≠ gb431)); replace BK431 := kb_ BK431 hb; clear hb hbox hg) | ((with_reducible refine gate_callee (f := 55) rfl ?_); refine goesL_ (some 7) rfl rfl Try.func55 (by kernel_rfl) rfl #[.slice A0 l0.length c0] rfl ma_ ?_; (with_reducible refine (spec_l1New.calls k _ _ l0 t433 t434 t435 w _ ?side1 ?side2 ?side3 A2.out).mono ?_); (case side1 => repeat (first | (with_reducible first | exact HB.out | apply below_alloc | apply pw_below_drewN | apply below_drew1 | refine below_set ?_ GE431.out | refine below_set ?_ GE432.out) | exact HB.out)); (case side2 => exact HR0.out); (case side3 => exact HC0.out); rintro e w9 ⟨g436, rfl, hi, hb, hb2⟩; refine ⟨_, rfl, ?_⟩; replace HB := Aside0.mk (hb); have HI436 := Aside0.mk (hi); have NB436_431 := Aside0.mk (IsS81.ne_blk hi (blk_below (K_ BK431.out) hb2) (by decide)); have NB431_436 := Aside0.mk (Ne.symm (IsS81.ne_blk hi (blk_below (K_ BK431.out) hb2) (by decide))); replace BK431 := Aside0.mk (blk_below (K_ BK431.out) hb2); have NB436_432 := Aside0.mk (IsS81.ne_blk hi (blk_below (K_ BK432.out) hb2) (by decide)); have NB432_436 := Aside0.mk (Ne.symm (IsS81.ne_blk hi (blk_below (K_ BK432.out) hb2) (by decide))); replace BK432 := Aside0.mk (blk_below (K_ BK432.out) hb2); (try clear hb); (try clear hb2); (try clear hk); (try clear hi)) | ((with_reducible refine gate_callee (f := 54) rfl ?_); refine goesL_ (some 9) rfl rfl Try.func54 (by kernel_rfl) rfl #[.pointer (some ⟨g436, 0, none⟩)] rfl ma_ ?_; (with_reducible refine (spec_l3Bent.calls k g436 t433 t434 t435 t437 t438 t441 t444 t445 w _ ?side1 ?side2 A3.out).mono ?_); (case side1 => repeat (first | (with_reducible first | exact HI436.out | apply IsS81.alloc | apply IsS81.drewN | apply IsS81.drew | apply IsS81.set_1 | apply IsS81.set_2 | refine IsS81.far ?_ NB436_431.out _ | refine IsS81.far ?_ NB436_432.out _) | exact HI436.out)); (case side2 => repeat (first | (with_reducible first | exact HB.out | apply below_alloc | apply pw_below_drewN | apply below_drew1 | refine below_set ?_ (IsS81.ge HI436.out) | refine below_set ?_ GE431.out | refine below_set ?_ GE432.out) | exact HB.out)); rintro e w10 ⟨v439, v442, rfl, ho0, ho1, hi, hb, hk⟩; refine ⟨_, rfl, ?_⟩; have HO440 := Aside0.mk (Kd.R_lower (Kd.R_newM (M := fun k_ => (w.heap.size ≤ k_)) (Kd.R_mono (ok' := fun k_ => True) ho0 (fun _ hk_ => trivial)) (below_size (B3_ HB.out (IsS81.ge HI436.out) GE431.out GE432.out)) (fun k_ h_ => h_)) (below_size (B3_ HB.out (IsS81.ge HI436.out) GE431.out GE432.out))); have HO443 := Aside0.mk (Kd.N_lower (Kd.N_mono (ok' := fun k_ => (w.heap.size ≤ k_) ∧ some k_ ≠ (v439 : Value).ownBlock ∧ k_ ≠ gb431 ∧ k_ ≠ gb432 ∧ k_ ≠ g436) ho1 (fun k_ hk_ => ⟨(Nat.le_trans (below_size (B3_ HB.out (IsS81.ge HI436.out) GE431.out GE432.out)) hk_.1), hk_.2, (Kd.freshB (K_ BK431.out) k_ hk_.1), (Kd.freshB (K_ BK432.out) k_ hk_.1), (IsS81.fresh (i81a2_ HI436.out NB436_431.out NB436_432.out) k_ hk_.1)⟩)) (below_size (B3_ HB.out (IsS81.ge HI436.out) GE431.out GE432.out))); replace BK431 := Aside0.mk (KeepBut.blk hk (g' := gb431) (o := .cells #[.int .i64 0, .slice none 0 0, .slice none 0 0] 30 (0, 0)) (K_ BK431.out) NB431_436.out (by simp)); replace BK432 := Aside0.mk (KeepBut.blk hk (g' := gb432) (o := .cells #[.int .i64 0, .slice none 0 0, .slice none 0 0] 30 (0, 0)) (K_ BK432.out) NB432_436.out (by simp)); replace HB := Aside0.mk (hb); replace HI436 := Aside0.mk (hi); (try clear hb); (try clear hb2); (try clear hk); (try clear hi); (try clear ho0); (try clear ho1)) | ((with_reducible refine gate_dst (N := 5) rfl ?_); refine box_event ?hg (N := 5) ?hd (cs := #[.int .i64 0, .slice none 0 0, .slice none 0 0]) (t := 30) ?hr ?_; (case hd => rfl); (case hg => rfl); (case hr => first | (go_simp; done) | (go_simp; rfl)); intro gb446 hg w11 hbox hb; replace HO440 := rb_ HO440 hb; replace HO443 := Aside0.mk (Kd.N_below (Kd.N_elderB (N_ HO443.out) gb446 (Nat.le_of_eq hg.symm)) hb); have BK446 := Aside0.mk (hbox); have GW446 := Aside0.mk ((by rw [hg]; exact (below_size (B3_ HB.out (IsS81.ge HI436.out) GE431.out GE432.out)) : w.heap.size ≤ gb446)); have GE446 := Aside0.mk ((by rw [hg]; exact (below_size (B3_ HB.out (IsS81.ge HI436.out) GE431.out GE432.out)) : w.heap.size ≤ gb446)); replace HB := Aside0.mk (below_step (B3_ HB.out (IsS81.ge HI436.out) GE431.out GE432.out) hb); have NB431_446 := Aside0.mk ((by rw [hg]; exact Nat.ne_of_lt (blk_lt (K_ BK431.out)) : gb431 ≠ gb446)); have NB446_431 := Aside0.mk ((by rw [hg]; exact Nat.ne_of_gt (blk_lt (K_ BK431.out)) : gb446 ≠ gb431)); replace BK431 := kb_ BK431 hb; have NB432_446 := Aside0.mk ((by rw [hg]; exact Nat.ne_of_lt (blk_lt (K_ BK432.out)) : gb432 ≠ gb446)); have NB446_432 := Aside0.mk ((by rw [hg]; exact Nat.ne_of_gt (blk_lt (K_ BK432.out)) : gb446 ≠ gb432)); replace BK432 := kb_ BK432 hb; have NB436_446 := Aside0.mk ((by rw [hg]; exact Nat.ne_of_lt (IsS81.lt (show IsS81 w _ g436 t433 t444 t445 from i81a2_ HI436.out NB436_431.out NB436_432.out)) : g436 ≠ gb446)); have NB446_436 := Aside0.mk ((by rw [hg]; exact Nat.ne_of_gt (IsS81.lt (show IsS81 w _ g436 t433 t444 t445 from i81a2_ HI436.out NB436_431.out NB436_432.out)) : gb446 ≠ g436)); replace HI436 := Aside0.mk (IsS81.below (i81a2_ HI436.out NB436_431.out NB436_432.out) hb); clear hb hbox hg; have hnb12 := NB446_431.out; have hnc12 := NB431_446.out; have hnb13 := NB446_432.out; have hnc13 := NB432_446.out; have hnb14 := NB446_436.out; have hnc14 := NB436_446.out; obtain ⟨hcz15_0, hcz15_1, hcz15_2, hfz15_0, hfz15_1, hfz15_2⟩ := box3_ BK446.out; obtain ⟨Ao16, co16, eo16⟩ := Kd.R_slice HO440.out; subst eo16; obtain ⟨Ao17, co17, eo17⟩ := Kd.N_slice HO443.out; subst eo17) | ((with_reducible refine gate_callee (f := 56) rfl ?_); refine goesL_ (some 11) rfl rfl Try.func56 (by kernel_rfl) rfl #[.pointer (some ⟨g436, 0, none⟩), .int .i64 2] rfl ma_ ?_; (with_reducible refine (spec_l1Once.calls g436 t433 t444 t445 2 true t448 t449 w _ ?side1 ?side2 A4.out).mono ?_); (case side1 => repeat (first | (with_reducible first | exact HI436.out | apply IsS81.alloc | apply IsS81.drewN | apply IsS81.drew | apply IsS81.set_1 | apply IsS81.set_2 | refine IsS81.far ?_ NB436_431.out _ | refine IsS81.far ?_ NB436_432.out _ | refine IsS81.far ?_ NB436_446.out _) | exact HI436.out)); (case side2 => repeat (first | (with_reducible first | exact HB.out | apply below_alloc | apply pw_below_drewN | apply below_drew1 | refine below_set ?_ (IsS81.ge HI436.out) | refine below_set ?_ GE431.out | refine below_set ?_ GE432.out | refine below_set ?_ GE446.out) | exact HB.out)); rintro e w18 ⟨rfl, hi, hb, hk⟩; refine ⟨_, rfl, ?_⟩; replace BK431 := Aside0.mk (KeepBut.blk hk (g' := gb431) (o := .cells #[.int .i64 0, .slice none 0 0, .slice none 0 0] 30 (0, 0)) (by (with_reducible repeat (first | refine blk_drewN ?_ _ | refine blk_drew ?_ | refine blk_alloc ?_ _)); refine blk_far ?_ NB431_446.out _; (with_reducible repeat (first | refine blk_drewN ?_ _ | refine blk_drew ?_ | refine blk_alloc ?_ _)); refine blk_far ?_ NB431_446.out _; (with_reducible repeat (first | refine blk_drewN ?_ _ | refine blk_drew ?_ | refine blk_alloc ?_ _)); refine blk_far ?_ NB431_446.out _; (with_reducible repeat (first | refine blk_drewN ?_ _ | refine blk_drew ?_ | refine blk_alloc ?_ _)); exact BK431.out) NB431_436.out (by simp)); replace BK432 := Aside0.mk (KeepBut.blk hk (g' := gb432) (o := .cells #[.int .i64 0, .slice none 0 0, .slice none 0 0] 30 (0, 0)) (by (with_reducible repeat (first | refine blk_drewN ?_ _ | refine blk_drew ?_ | refine blk_alloc ?_ _)); refine blk_far ?_ NB432_446.out _; (with_reducible repeat (first | refine blk_drewN ?_ _ | refine blk_drew ?_ | refine blk_alloc ?_ _)); refine blk_far ?_ NB432_446.out _; (with_reducible repeat (first | refine blk_drewN ?_ _ | refine blk_drew ?_ | refine blk_alloc ?_ _)); refine blk_far ?_ NB432_446.out _; (with_reducible repeat (first | refine blk_drewN ?_ _ | refine blk_drew ?_ | refine blk_alloc ?_ _)); exact BK432.out) NB432_436.out (by simp)); replace HO440 := Aside0.mk (Kd.R_mono (Kd.R_keep (IsS81.apart (show IsS81 w _ g436 t433 t444 t445 from i81a3_ HI436.out NB436_431.out NB436_432.out NB436_446.out) (by (with_reducible repeat (first | apply Kd.R_alloc | apply Kd.R_drewN | apply Kd.R_drew)); exact (Kd.R_mono (Kd.R_far (p := ⟨gb446, 2, none⟩) (Kd.R_far (p := ⟨gb446, 1, none⟩) (Kd.R_far (p := ⟨gb446, 0, none⟩) (Kd.R_types HO440.out BK446.out (by decide)) (fun _ hk => hk.2) (.int .i64 t437)) (fun _ hk => hk.2) (.slice Ao16 t438.length co16)) (fun _ hk => hk.2) (.slice Ao17 t441.length co17)) (fun _ h_ => h_.1))) (by decide)) hk (fun _ h => h.2)) (fun _ h => h.1)); replace HO443 := Aside0.mk (Kd.N_mono (Kd.N_keep (Kd.N_mono (ok := fun k_ => ((((w.heap.size ≤ k_)) ∧ (some k_ ≠ (.slice Ao16 t438.length co16 : Value).ownBlock ∧ (k_ ≠ gb431 ∧ (k_ ≠ gb432 ∧ k_ ≠ g436)))) ∧ k_ ≠ gb446)) (by (with_reducible repeat (first | apply Kd.N_alloc | apply Kd.N_drewN | apply Kd.N_drew)); exact (Kd.N_mono (Kd.N_far (p := ⟨gb446, 2, none⟩) (Kd.N_far (p := ⟨gb446, 1, none⟩) (Kd.N_far (p := ⟨gb446, 0, none⟩) (Kd.N_mono HO443.out (fun k_ hk => (⟨hk, hk.2⟩ : _ ∧ k_ ≠ gb446))) (fun _ hk => hk.2) (.int .i64 t437)) (fun _ hk => hk.2) (.slice Ao16 t438.length co16)) (fun _ hk => hk.2) (.slice Ao17 t441.length co17)) (fun _ h_ => h_.1))) (fun k_ hk_ => (⟨hk_, hk_.1.2.2.2.2⟩ : _ ∧ k_ ≠ g436))) hk (fun _ h => h.2)) (fun _ h => h.1)); replace BK446 := Aside0.mk (KeepBut.blk hk (g' := gb446) (o := .cells #[.int .i64 t437, .slice Ao16 t438.length co16, .slice Ao17 t441.length co17] 30 (0, 0)) (by (with_reducible repeat (first | refine blk_drewN ?_ _ | refine blk_drew ?_ | refine blk_alloc ?_ _)); refine blk_put (cs := #[.int .i64 t437, .slice Ao16 t438.length co16, .slice none 0 0]) ?_ 2 _ rfl; (with_reducible repeat (first | refine blk_drewN ?_ _ | refine blk_drew ?_ | refine blk_alloc ?_ _)); refine blk_put (cs := #[.int .i64 t437, .slice none 0 0, .slice none 0 0]) ?_ 1 _ rfl; (with_reducible repeat (first | refine blk_drewN ?_ _ | refine blk_drew ?_ | refine blk_alloc ?_ _)); refine blk_put (cs := #[.int .i64 0, .slice none 0 0, .slice none 0 0]) ?_ 0 _ rfl; (with_reducible repeat (first | refine blk_drewN ?_ _ | refine blk_drew ?_ | refine blk_alloc ?_ _)); exact BK446.out) NB446_436.out (by simp)); replace HB := Aside0.mk (hb); replace HI436 := Aside0.mk (hi); (try clear hb); (try clear hb2); (try clear hk); (try clear hi)))
  replace HO440 := Aside0.mk (Kd.R_drew HO440.out)
  replace HO443 := Aside0.mk (Kd.N_drew HO443.out)
  replace BK431 := Aside0.mk (blk_drew BK431.out)
  replace BK432 := Aside0.mk (blk_drew BK432.out)
  replace BK446 := Aside0.mk (blk_drew BK446.out)
  replace HI436 := Aside0.mk (IsS81.drew HI436.out)
  replace HB := Aside0.mk (below_drew1 HB.out)
  refine start_ (n := 5) (S := fun w' => w'.cell? ⟨gb446, 0, none⟩ = some (.int .i64 t437) ∧ w'.cell? ⟨gb446, 1, none⟩ = some (.slice Ao16 t438.length co16) ∧ w'.cell? ⟨gb446, 2, none⟩ = some (.slice Ao17 t441.length co17)) (ds := []) #[false, false, false, false, false] (by kernel_rfl) rfl rfl ⟨(blk_cell BK446.out 0).trans rfl, (blk_cell BK446.out 1).trans rfl, (blk_cell BK446.out 2).trans rfl⟩ (fun hHeld => ?_)
  generalize w18.drew = w19 at HO440 HO443 BK431 BK432 BK446 HI436 HB hHeld ⊢
  refine take_ (i := 0) (N := some 12) (v := ?_) (a' := ?_) #[true, false, false, false, false] rfl rfl (by kernel_rfl) (fun _ _ _ h => h) (Or.inl ⟨by rfl, ?_⟩) hHeld ?_ ?_
  rotate_left
  ·rintro w' ⟨s0, s1, s2⟩
   go_simp
   with_reducible rfl
  rotate_left
  ·simp only [Act.put, List.setIfInBounds_toArray, List.set_cons_zero, List.set_cons_succ, i64_w, i32_w]
   rfl
  refine take_ (i := 1) (N := some 13) (v := ?_) (a' := ?_) #[true, true, false, false, false] rfl rfl (by kernel_rfl) (fun _ _ _ h => h) (Or.inl ⟨by rfl, ?_⟩) hHeld ?_ ?_
  rotate_left
  ·rintro w' ⟨s0, s1, s2⟩
   go_simp
   with_reducible rfl
  rotate_left
  ·simp only [Act.put, List.setIfInBounds_toArray, List.set_cons_zero, List.set_cons_succ, i64_w, i32_w]
   rfl
  refine one_ (i := 2) (N := some 14) #[true, true, true, false, false] rfl rfl (by kernel_rfl) (by decide) (fun K hK => ?_)
  refine goes_ Try.func57 (by kernel_rfl) rfl #[.agg #[.int .i64 t437, .slice Ao16 t438.length co16, .slice Ao17 t441.length co17]] (by rfl) rfl rfl ma_ ?_
  with_reducible refine (spec_l3Copy.calls k t437 _ _ t438 _ _ t441 t450 t451 t454 _ ?side1 ?side2 ?side3 ?side4 A6.out).mono ?_
  (case side1 => exact crb_ HO440)
  (case side2 => exact lrb_ HO440)
  (case side3 => exact cnb_ HO443)
  (case side4 => exact lnb_ HO443)
  rintro e w20 ⟨v452, v455, rfl, ho0, ho1, hb⟩
  refine ⟨_, rfl, ?_⟩
  have HO453 := Aside0.mk (Kd.R_lower (Kd.R_new' (Kd.R_newM (M := fun k_ => (w.heap.size ≤ k_)) ho0 (below_size (B4_ HB.out (IsS81.ge HI436.out) GE431.out GE432.out GE446.out)) (fun k_ h_ => h_)) (Kd.R_lt (R_ HO440.out))) (below_size (B4_ HB.out (IsS81.ge HI436.out) GE431.out GE432.out GE446.out)))
  have HO456 := Aside0.mk (Kd.N_lower (Kd.N_mono (ok' := fun k_ => (w.heap.size ≤ k_) ∧ some k_ ≠ (v452 : Value).ownBlock ∧ some k_ ≠ (.slice Ao16 t438.length co16 : Value).ownBlock ∧ some k_ ≠ (.slice Ao17 t441.length co17 : Value).ownBlock ∧ k_ ≠ gb431 ∧ k_ ≠ gb432 ∧ k_ ≠ gb446 ∧ k_ ≠ g436) (Kd.R_N (Kd.R_bound ho1)) (fun k_ hk_ => ⟨(Nat.le_trans (below_size (B4_ HB.out (IsS81.ge HI436.out) GE431.out GE432.out GE446.out)) hk_.2.1), hk_.1, (Kd.fresh' (Kd.R_lt (R_ HO440.out)) k_ hk_.2.1), (Kd.fresh' (Kd.N_lt (N_ HO443.out)) k_ hk_.2.1), (Kd.freshB (K_ BK431.out) k_ hk_.2.1), (Kd.freshB (K_ BK432.out) k_ hk_.2.1), (Kd.freshB (K_ BK446.out) k_ hk_.2.1), (IsS81.fresh (i81a3_ HI436.out NB436_431.out NB436_432.out NB436_446.out) k_ hk_.2.1)⟩)) (below_size (B4_ HB.out (IsS81.ge HI436.out) GE431.out GE432.out GE446.out)))
  replace HO440 := Aside0.mk (Kd.R_elder' (R_ HO440.out) (Kd.R_base ho0) hb)
  replace HO443 := Aside0.mk (Kd.N_mono (Kd.N_told (Kd.N_told (Kd.N_old (N_ HO443.out) hb) (Kd.R_base ho0)) (Kd.R_base ho1)) (fun _ h_ => h_.1))
  replace BK431 := kb_ BK431 hb
  replace BK432 := kb_ BK432 hb
  replace BK446 := kb_ BK446 hb
  replace HB := Aside0.mk (below_step (B4_ HB.out (IsS81.ge HI436.out) GE431.out GE432.out GE446.out) hb)
  replace HI436 := Aside0.mk (IsS81.below (i81a3_ HI436.out NB436_431.out NB436_432.out NB436_446.out) hb)
  (try clear hb)
  (try clear hb2)
  (try clear hk)
  (try clear hi)
  (try clear ho0)
  (try clear ho1)
  obtain ⟨Ao25, co25, eo25⟩ := Kd.R_slice HO453.out
  (first | subst eo25 | (injection eo25 with f1_ f2_ f3_; have f4_ := f1_.symm; have f5_ := f3_.symm; clear f1_ f2_ f3_; subst f4_; subst f5_))
  obtain ⟨Ao27, co27, eo27⟩ := Kd.N_slice HO456.out
  (first | subst eo27 | (injection eo27 with f1_ f2_ f3_; have f4_ := f1_.symm; have f5_ := f3_.symm; clear f1_ f2_ f3_; subst f4_; subst f5_))
  refine hK.out _ _ ⟨(blk_cell BK446.out 0).trans rfl, (blk_cell BK446.out 1).trans rfl, (blk_cell BK446.out 2).trans rfl⟩ (fun hHeld => ?_)
  clear hK K
  refine nm_ (some 14) ?_
  refine one_ (i := 3) (N := none) #[true, true, true, true, false] rfl rfl (by kernel_rfl) (by decide) (fun K hK => ?_)
  have hs21 : w20.cell? ⟨gb431, 0, none⟩ = some (.int .i64 0) := (blk_cell BK431.out 0).trans rfl
  have hfs21 := blk_frozen BK431.out 0
  have hns21_1 := NB432_431.out
  have hns21_2 := NB446_431.out
  have hms21_1 := NB431_432.out
  have hms21_2 := NB431_446.out
  have hs22 : w20.cell? ⟨gb431, 1, none⟩ = some (.slice none 0 0) := (blk_cell BK431.out 1).trans rfl
  have hfs22 := blk_frozen BK431.out 1
  have hns22_1 := NB432_431.out
  have hns22_2 := NB446_431.out
  have hms22_1 := NB431_432.out
  have hms22_2 := NB431_446.out
  have hs23 : w20.cell? ⟨gb431, 2, none⟩ = some (.slice none 0 0) := (blk_cell BK431.out 2).trans rfl
  have hfs23 := blk_frozen BK431.out 2
  have hns23_1 := NB432_431.out
  have hns23_2 := NB446_431.out
  have hms23_1 := NB431_432.out
  have hms23_2 := NB431_446.out
  refine skip_ (w1 := ?_) (by rfl) rfl ?_ ?_
  rotate_left
  ·go_simp
   rfl
  refine hK.out _ _ ⟨((cell_far (p := ⟨gb431, _, none⟩) NB446_431.out _).trans (((cell_far (p := ⟨gb431, _, none⟩) NB446_431.out _).trans (((cell_far (p := ⟨gb431, _, none⟩) NB446_431.out _).trans (hHeld.1)))))), ((cell_far (p := ⟨gb431, _, none⟩) NB446_431.out _).trans (((cell_far (p := ⟨gb431, _, none⟩) NB446_431.out _).trans (((cell_far (p := ⟨gb431, _, none⟩) NB446_431.out _).trans (hHeld.2.1)))))), ((cell_far (p := ⟨gb431, _, none⟩) NB446_431.out _).trans (((cell_far (p := ⟨gb431, _, none⟩) NB446_431.out _).trans (((cell_far (p := ⟨gb431, _, none⟩) NB446_431.out _).trans (hHeld.2.2))))))⟩ (fun hHeld => ?_)
  clear hK K
  refine one_ (i := 4) (N := none) #[true, true, true, true, true] rfl rfl (by kernel_rfl) (by decide) (fun K hK => ?_)
  have hs24 : w20.cell? ⟨gb432, 0, none⟩ = some (.int .i64 0) := (blk_cell BK432.out 0).trans rfl
  have hfs24 := blk_frozen BK432.out 0
  have hns24_0 := NB431_432.out
  have hns24_2 := NB446_432.out
  have hms24_0 := NB432_431.out
  have hms24_2 := NB432_446.out
  have hs26 : w20.cell? ⟨gb432, 1, none⟩ = some (.slice none 0 0) := (blk_cell BK432.out 1).trans rfl
  have hfs26 := blk_frozen BK432.out 1
  have hns26_0 := NB431_432.out
  have hns26_2 := NB446_432.out
  have hms26_0 := NB432_431.out
  have hms26_2 := NB432_446.out
  have hs28 : w20.cell? ⟨gb432, 2, none⟩ = some (.slice none 0 0) := (blk_cell BK432.out 2).trans rfl
  have hfs28 := blk_frozen BK432.out 2
  have hns28_0 := NB431_432.out
  have hns28_2 := NB446_432.out
  have hms28_0 := NB432_431.out
  have hms28_2 := NB432_446.out
  refine skip_ (w1 := ?_) (by rfl) rfl ?_ ?_
  rotate_left
  ·go_simp
   rfl
  refine hK.out _ _ ⟨((cell_far (p := ⟨gb432, _, none⟩) NB446_432.out _).trans (((cell_far (p := ⟨gb432, _, none⟩) NB446_432.out _).trans (((cell_far (p := ⟨gb432, _, none⟩) NB446_432.out _).trans (hHeld.1)))))), ((cell_far (p := ⟨gb432, _, none⟩) NB446_432.out _).trans (((cell_far (p := ⟨gb432, _, none⟩) NB446_432.out _).trans (((cell_far (p := ⟨gb432, _, none⟩) NB446_432.out _).trans (hHeld.2.1)))))), ((cell_far (p := ⟨gb432, _, none⟩) NB446_432.out _).trans (((cell_far (p := ⟨gb432, _, none⟩) NB446_432.out _).trans (((cell_far (p := ⟨gb432, _, none⟩) NB446_432.out _).trans (hHeld.2.2))))))⟩ (fun hHeld => ?_)
  clear hK K
  refine done_ (by kernel_rfl) ?_
  try go_wp2
  refine bodyPost_ret (results_cc rfl _ _ gb431 gb432 30 30 #[.int .i64 t437, .slice Ao16 t438.length co16, .slice Ao17 t441.length co17] #[.int .i64 t450, .slice Ao25 t451.length co25, .slice Ao27 t454.length co27] (0, 0) (0, 0) _ _ rfl (by (with_reducible repeat (first | refine blk_drewN ?_ _ | refine blk_drew ?_ | refine blk_alloc ?_ _)); refine blk_far ?_ NB431_432.out _; (with_reducible repeat (first | refine blk_drewN ?_ _ | refine blk_drew ?_ | refine blk_alloc ?_ _)); refine blk_far ?_ NB431_432.out _; (with_reducible repeat (first | refine blk_drewN ?_ _ | refine blk_drew ?_ | refine blk_alloc ?_ _)); refine blk_far ?_ NB431_432.out _; (with_reducible repeat (first | refine blk_drewN ?_ _ | refine blk_drew ?_ | refine blk_alloc ?_ _)); refine blk_put (cs := #[.int .i64 t437, .slice Ao16 t438.length co16, .slice none 0 0]) ?_ 2 _ rfl; (with_reducible repeat (first | refine blk_drewN ?_ _ | refine blk_drew ?_ | refine blk_alloc ?_ _)); refine blk_put (cs := #[.int .i64 t437, .slice none 0 0, .slice none 0 0]) ?_ 1 _ rfl; (with_reducible repeat (first | refine blk_drewN ?_ _ | refine blk_drew ?_ | refine blk_alloc ?_ _)); refine blk_put (cs := #[.int .i64 0, .slice none 0 0, .slice none 0 0]) ?_ 0 _ rfl; (with_reducible repeat (first | refine blk_drewN ?_ _ | refine blk_drew ?_ | refine blk_alloc ?_ _)); exact BK431.out) Try.underlying30 rfl (by kernel_rfl) rfl (by (with_reducible repeat (first | refine blk_drewN ?_ _ | refine blk_drew ?_ | refine blk_alloc ?_ _)); refine blk_put (cs := #[.int .i64 t450, .slice Ao25 t451.length co25, .slice none 0 0]) ?_ 2 _ rfl; (with_reducible repeat (first | refine blk_drewN ?_ _ | refine blk_drew ?_ | refine blk_alloc ?_ _)); refine blk_put (cs := #[.int .i64 t450, .slice none 0 0, .slice none 0 0]) ?_ 1 _ rfl; (with_reducible repeat (first | refine blk_drewN ?_ _ | refine blk_drew ?_ | refine blk_alloc ?_ _)); refine blk_put (cs := #[.int .i64 0, .slice none 0 0, .slice none 0 0]) ?_ 0 _ rfl; (with_reducible repeat (first | refine blk_drewN ?_ _ | refine blk_drew ?_ | refine blk_alloc ?_ _)); refine blk_far ?_ NB432_431.out _; (with_reducible repeat (first | refine blk_drewN ?_ _ | refine blk_drew ?_ | refine blk_alloc ?_ _)); refine blk_far ?_ NB432_431.out _; (with_reducible repeat (first | refine blk_drewN ?_ _ | refine blk_drew ?_ | refine blk_alloc ?_ _)); refine blk_far ?_ NB432_431.out _; (with_reducible repeat (first | refine blk_drewN ?_ _ | refine blk_drew ?_ | refine blk_alloc ?_ _)); exact BK432.out) Try.underlying30 rfl (by kernel_rfl)) rfl ?_
  exact ⟨_, _, _, _, er_, by (with_reducible repeat (first | apply Kd.R_alloc | apply Kd.R_drewN | apply Kd.R_drew)); exact Kd.R_mono (Kd.R_far (p := ⟨gb432, 2, none⟩) (Kd.R_far (p := ⟨gb432, 1, none⟩) (Kd.R_far (p := ⟨gb432, 0, none⟩) (Kd.R_far (p := ⟨gb431, 2, none⟩) (Kd.R_far (p := ⟨gb431, 1, none⟩) (Kd.R_far (p := ⟨gb431, 0, none⟩) (Kd.R_types (Kd.R_types HO440.out BK431.out (by decide)) BK432.out (by decide)) (fun _ hk => hk.1.2) (.int .i64 t437)) (fun _ hk => hk.1.2) (.slice Ao16 t438.length co16)) (fun _ hk => hk.1.2) (.slice Ao17 t441.length co17)) (fun _ hk => hk.2) (.int .i64 t450)) (fun _ hk => hk.2) (.slice Ao25 t451.length co25)) (fun _ hk => hk.2) (.slice Ao27 t454.length co27)) (fun _ hk => ⟨hk.1.1.1.1, hk.1.1.2⟩), by (with_reducible repeat (first | apply Kd.N_alloc | apply Kd.N_drewN | apply Kd.N_drew)); exact Kd.N_mono (Kd.N_far (p := ⟨gb432, 2, none⟩) (Kd.N_far (p := ⟨gb432, 1, none⟩) (Kd.N_far (p := ⟨gb432, 0, none⟩) (Kd.N_far (p := ⟨gb431, 2, none⟩) (Kd.N_far (p := ⟨gb431, 1, none⟩) (Kd.N_far (p := ⟨gb431, 0, none⟩) (Kd.N_mono (Kd.N_mono HO443.out (fun k_ hk => (⟨hk, hk.1.1.1.2.2.1⟩ : _ ∧ k_ ≠ gb431))) (fun k_ hk => (⟨hk, hk.1.1.1.1.2.2.2.1⟩ : _ ∧ k_ ≠ gb432))) (fun _ hk => hk.1.2) (.int .i64 t437)) (fun _ hk => hk.1.2) (.slice Ao16 t438.length co16)) (fun _ hk => hk.1.2) (.slice Ao17 t441.length co17)) (fun _ hk => hk.2) (.int .i64 t450)) (fun _ hk => hk.2) (.slice Ao25 t451.length co25)) (fun _ hk => hk.2) (.slice Ao27 t454.length co27)) (fun _ hk => ⟨hk.1.1.1.1.1.1, ⟨hk.1.1.1.1.1.2.1, ⟨hk.1.1.1.2, hk.1.1.2⟩⟩⟩), by (with_reducible repeat (first | apply Kd.R_alloc | apply Kd.R_drewN | apply Kd.R_drew)); exact Kd.R_mono (Kd.R_far (p := ⟨gb432, 2, none⟩) (Kd.R_far (p := ⟨gb432, 1, none⟩) (Kd.R_far (p := ⟨gb432, 0, none⟩) (Kd.R_far (p := ⟨gb431, 2, none⟩) (Kd.R_far (p := ⟨gb431, 1, none⟩) (Kd.R_far (p := ⟨gb431, 0, none⟩) (Kd.R_types (Kd.R_types HO453.out BK431.out (by decide)) BK432.out (by decide)) (fun _ hk => hk.1.2) (.int .i64 t437)) (fun _ hk => hk.1.2) (.slice Ao16 t438.length co16)) (fun _ hk => hk.1.2) (.slice Ao17 t441.length co17)) (fun _ hk => hk.2) (.int .i64 t450)) (fun _ hk => hk.2) (.slice Ao25 t451.length co25)) (fun _ hk => hk.2) (.slice Ao27 t454.length co27)) (fun _ hk => ⟨hk.1.1.1.1, hk.1.1.2⟩), by (with_reducible repeat (first | apply Kd.N_alloc | apply Kd.N_drewN | apply Kd.N_drew)); exact Kd.N_mono (Kd.N_far (p := ⟨gb432, 2, none⟩) (Kd.N_far (p := ⟨gb432, 1, none⟩) (Kd.N_far (p := ⟨gb432, 0, none⟩) (Kd.N_far (p := ⟨gb431, 2, none⟩) (Kd.N_far (p := ⟨gb431, 1, none⟩) (Kd.N_far (p := ⟨gb431, 0, none⟩) (Kd.N_mono (Kd.N_mono HO456.out (fun k_ hk => (⟨hk, hk.2.2.2.2.1⟩ : _ ∧ k_ ≠ gb431))) (fun k_ hk => (⟨hk, hk.1.2.2.2.2.2.1⟩ : _ ∧ k_ ≠ gb432))) (fun _ hk => hk.1.2) (.int .i64 t437)) (fun _ hk => hk.1.2) (.slice Ao16 t438.length co16)) (fun _ hk => hk.1.2) (.slice Ao17 t441.length co17)) (fun _ hk => hk.2) (.int .i64 t450)) (fun _ hk => hk.2) (.slice Ao25 t451.length co25)) (fun _ hk => hk.2) (.slice Ao27 t454.length co27)) (fun _ hk => ⟨hk.1.1.1, ⟨hk.1.1.2.2.1, ⟨hk.1.1.2.2.2.1, hk.1.1.2.1⟩⟩⟩), B4_ HB.out (IsS81.ge HI436.out) GE431.out GE432.out GE446.out⟩
 ·replace c5 := Bool.eq_false_iff.mpr c5
  subst c5
  have H1 : ((spec_l3Bent.f k t433 t448 t449).bind fun bt457 => (some (t437, t438, t441, bt457.1, bt457.2.1, bt457.2.2.1))) = some (r1, r2, r3, r4, r5, r6) := by rw [if_neg (show ¬ (false = true) by decide)] at H; exact H
  clear H
  have H := H1
  clear H1
  replace H := Option.bind_eq_some_iff.mp H
  obtain ⟨⟨t457, t458, t461, t464, t465⟩, A290, H⟩ := H
  replace H : (some (t437, t438, t441, t457, t458, t461)) = some (r1, r2, r3, r4, r5, r6) := H
  have A29 := Aside0.mk A290
  clear A290
  simp only [Option.some.injEq, Prod.mk.injEq] at H
  obtain ⟨rfl, rfl, rfl, rfl, rfl, rfl⟩ := H
  go_enter Try.func30, Try.ntmps30
  try go_wp2_with (first | ((with_reducible refine gate_dst (N := 2) rfl ?_); refine box_event ?hg (N := 2) ?hd (cs := #[.int .i64 0, .slice none 0 0, .slice none 0 0]) (t := 30) ?hr ?_; (case hd => rfl); (case hg => rfl); (case hr => first | (go_simp; done) | (go_simp; rfl)); intro gb431 hg w30 hbox hb; have BK431 := Aside0.mk (hbox); have GW431 := Aside0.mk ((by rw [hg]; exact (below_size (B0_ HB.out)) : w.heap.size ≤ gb431)); have GE431 := Aside0.mk ((by rw [hg]; exact (below_size (B0_ HB.out)) : w.heap.size ≤ gb431)); replace HB := Aside0.mk (below_step (B0_ HB.out) hb); clear hb hbox hg) | ((with_reducible refine gate_dst (N := 3) rfl ?_); refine box_event ?hg (N := 3) ?hd (cs := #[.int .i64 0, .slice none 0 0, .slice none 0 0]) (t := 30) ?hr ?_; (case hd => rfl); (case hg => rfl); (case hr => first | (go_simp; done) | (go_simp; rfl)); intro gb432 hg w31 hbox hb; have BK432 := Aside0.mk (hbox); have GW432 := Aside0.mk ((by rw [hg]; exact (below_size (B1_ HB.out GE431.out)) : w.heap.size ≤ gb432)); have GE432 := Aside0.mk ((by rw [hg]; exact (below_size (B1_ HB.out GE431.out)) : w.heap.size ≤ gb432)); replace HB := Aside0.mk (below_step (B1_ HB.out GE431.out) hb); have NB431_432 := Aside0.mk ((by rw [hg]; exact Nat.ne_of_lt (blk_lt (K_ BK431.out)) : gb431 ≠ gb432)); have NB432_431 := Aside0.mk ((by rw [hg]; exact Nat.ne_of_gt (blk_lt (K_ BK431.out)) : gb432 ≠ gb431)); replace BK431 := kb_ BK431 hb; clear hb hbox hg) | ((with_reducible refine gate_callee (f := 55) rfl ?_); refine goesL_ (some 7) rfl rfl Try.func55 (by kernel_rfl) rfl #[.slice A0 l0.length c0] rfl ma_ ?_; (with_reducible refine (spec_l1New.calls k _ _ l0 t433 t434 t435 w _ ?side1 ?side2 ?side3 A2.out).mono ?_); (case side1 => repeat (first | (with_reducible first | exact HB.out | apply below_alloc | apply pw_below_drewN | apply below_drew1 | refine below_set ?_ GE431.out | refine below_set ?_ GE432.out) | exact HB.out)); (case side2 => exact HR0.out); (case side3 => exact HC0.out); rintro e w32 ⟨g436, rfl, hi, hb, hb2⟩; refine ⟨_, rfl, ?_⟩; replace HB := Aside0.mk (hb); have HI436 := Aside0.mk (hi); have NB436_431 := Aside0.mk (IsS81.ne_blk hi (blk_below (K_ BK431.out) hb2) (by decide)); have NB431_436 := Aside0.mk (Ne.symm (IsS81.ne_blk hi (blk_below (K_ BK431.out) hb2) (by decide))); replace BK431 := Aside0.mk (blk_below (K_ BK431.out) hb2); have NB436_432 := Aside0.mk (IsS81.ne_blk hi (blk_below (K_ BK432.out) hb2) (by decide)); have NB432_436 := Aside0.mk (Ne.symm (IsS81.ne_blk hi (blk_below (K_ BK432.out) hb2) (by decide))); replace BK432 := Aside0.mk (blk_below (K_ BK432.out) hb2); (try clear hb); (try clear hb2); (try clear hk); (try clear hi)) | ((with_reducible refine gate_callee (f := 54) rfl ?_); refine goesL_ (some 9) rfl rfl Try.func54 (by kernel_rfl) rfl #[.pointer (some ⟨g436, 0, none⟩)] rfl ma_ ?_; (with_reducible refine (spec_l3Bent.calls k g436 t433 t434 t435 t437 t438 t441 t444 t445 w _ ?side1 ?side2 A3.out).mono ?_); (case side1 => repeat (first | (with_reducible first | exact HI436.out | apply IsS81.alloc | apply IsS81.drewN | apply IsS81.drew | apply IsS81.set_1 | apply IsS81.set_2 | refine IsS81.far ?_ NB436_431.out _ | refine IsS81.far ?_ NB436_432.out _) | exact HI436.out)); (case side2 => repeat (first | (with_reducible first | exact HB.out | apply below_alloc | apply pw_below_drewN | apply below_drew1 | refine below_set ?_ (IsS81.ge HI436.out) | refine below_set ?_ GE431.out | refine below_set ?_ GE432.out) | exact HB.out)); rintro e w33 ⟨v439, v442, rfl, ho0, ho1, hi, hb, hk⟩; refine ⟨_, rfl, ?_⟩; have HO440 := Aside0.mk (Kd.R_lower (Kd.R_newM (M := fun k_ => (w.heap.size ≤ k_)) (Kd.R_mono (ok' := fun k_ => True) ho0 (fun _ hk_ => trivial)) (below_size (B3_ HB.out (IsS81.ge HI436.out) GE431.out GE432.out)) (fun k_ h_ => h_)) (below_size (B3_ HB.out (IsS81.ge HI436.out) GE431.out GE432.out))); have HO443 := Aside0.mk (Kd.N_lower (Kd.N_mono (ok' := fun k_ => (w.heap.size ≤ k_) ∧ some k_ ≠ (v439 : Value).ownBlock ∧ k_ ≠ gb431 ∧ k_ ≠ gb432 ∧ k_ ≠ g436) ho1 (fun k_ hk_ => ⟨(Nat.le_trans (below_size (B3_ HB.out (IsS81.ge HI436.out) GE431.out GE432.out)) hk_.1), hk_.2, (Kd.freshB (K_ BK431.out) k_ hk_.1), (Kd.freshB (K_ BK432.out) k_ hk_.1), (IsS81.fresh (i81a2_ HI436.out NB436_431.out NB436_432.out) k_ hk_.1)⟩)) (below_size (B3_ HB.out (IsS81.ge HI436.out) GE431.out GE432.out))); replace BK431 := Aside0.mk (KeepBut.blk hk (g' := gb431) (o := .cells #[.int .i64 0, .slice none 0 0, .slice none 0 0] 30 (0, 0)) (K_ BK431.out) NB431_436.out (by simp)); replace BK432 := Aside0.mk (KeepBut.blk hk (g' := gb432) (o := .cells #[.int .i64 0, .slice none 0 0, .slice none 0 0] 30 (0, 0)) (K_ BK432.out) NB432_436.out (by simp)); replace HB := Aside0.mk (hb); replace HI436 := Aside0.mk (hi); (try clear hb); (try clear hb2); (try clear hk); (try clear hi); (try clear ho0); (try clear ho1)) | ((with_reducible refine gate_dst (N := 5) rfl ?_); refine box_event ?hg (N := 5) ?hd (cs := #[.int .i64 0, .slice none 0 0, .slice none 0 0]) (t := 30) ?hr ?_; (case hd => rfl); (case hg => rfl); (case hr => first | (go_simp; done) | (go_simp; rfl)); intro gb446 hg w34 hbox hb; replace HO440 := rb_ HO440 hb; replace HO443 := Aside0.mk (Kd.N_below (Kd.N_elderB (N_ HO443.out) gb446 (Nat.le_of_eq hg.symm)) hb); have BK446 := Aside0.mk (hbox); have GW446 := Aside0.mk ((by rw [hg]; exact (below_size (B3_ HB.out (IsS81.ge HI436.out) GE431.out GE432.out)) : w.heap.size ≤ gb446)); have GE446 := Aside0.mk ((by rw [hg]; exact (below_size (B3_ HB.out (IsS81.ge HI436.out) GE431.out GE432.out)) : w.heap.size ≤ gb446)); replace HB := Aside0.mk (below_step (B3_ HB.out (IsS81.ge HI436.out) GE431.out GE432.out) hb); have NB431_446 := Aside0.mk ((by rw [hg]; exact Nat.ne_of_lt (blk_lt (K_ BK431.out)) : gb431 ≠ gb446)); have NB446_431 := Aside0.mk ((by rw [hg]; exact Nat.ne_of_gt (blk_lt (K_ BK431.out)) : gb446 ≠ gb431)); replace BK431 := kb_ BK431 hb; have NB432_446 := Aside0.mk ((by rw [hg]; exact Nat.ne_of_lt (blk_lt (K_ BK432.out)) : gb432 ≠ gb446)); have NB446_432 := Aside0.mk ((by rw [hg]; exact Nat.ne_of_gt (blk_lt (K_ BK432.out)) : gb446 ≠ gb432)); replace BK432 := kb_ BK432 hb; have NB436_446 := Aside0.mk ((by rw [hg]; exact Nat.ne_of_lt (IsS81.lt (show IsS81 w _ g436 t433 t444 t445 from i81a2_ HI436.out NB436_431.out NB436_432.out)) : g436 ≠ gb446)); have NB446_436 := Aside0.mk ((by rw [hg]; exact Nat.ne_of_gt (IsS81.lt (show IsS81 w _ g436 t433 t444 t445 from i81a2_ HI436.out NB436_431.out NB436_432.out)) : gb446 ≠ g436)); replace HI436 := Aside0.mk (IsS81.below (i81a2_ HI436.out NB436_431.out NB436_432.out) hb); clear hb hbox hg; have hnb35 := NB446_431.out; have hnc35 := NB431_446.out; have hnb36 := NB446_432.out; have hnc36 := NB432_446.out; have hnb37 := NB446_436.out; have hnc37 := NB436_446.out; obtain ⟨hcz38_0, hcz38_1, hcz38_2, hfz38_0, hfz38_1, hfz38_2⟩ := box3_ BK446.out; obtain ⟨Ao39, co39, eo39⟩ := Kd.R_slice HO440.out; subst eo39; obtain ⟨Ao40, co40, eo40⟩ := Kd.N_slice HO443.out; subst eo40) | ((with_reducible refine gate_callee (f := 56) rfl ?_); refine goesL_ (some 11) rfl rfl Try.func56 (by kernel_rfl) rfl #[.pointer (some ⟨g436, 0, none⟩), .int .i64 2] rfl ma_ ?_; (with_reducible refine (spec_l1Once.calls g436 t433 t444 t445 2 false t448 t449 w _ ?side1 ?side2 A4.out).mono ?_); (case side1 => repeat (first | (with_reducible first | exact HI436.out | apply IsS81.alloc | apply IsS81.drewN | apply IsS81.drew | apply IsS81.set_1 | apply IsS81.set_2 | refine IsS81.far ?_ NB436_431.out _ | refine IsS81.far ?_ NB436_432.out _ | refine IsS81.far ?_ NB436_446.out _) | exact HI436.out)); (case side2 => repeat (first | (with_reducible first | exact HB.out | apply below_alloc | apply pw_below_drewN | apply below_drew1 | refine below_set ?_ (IsS81.ge HI436.out) | refine below_set ?_ GE431.out | refine below_set ?_ GE432.out | refine below_set ?_ GE446.out) | exact HB.out)); rintro e w41 ⟨rfl, hi, hb, hk⟩; refine ⟨_, rfl, ?_⟩; replace BK431 := Aside0.mk (KeepBut.blk hk (g' := gb431) (o := .cells #[.int .i64 0, .slice none 0 0, .slice none 0 0] 30 (0, 0)) (by (with_reducible repeat (first | refine blk_drewN ?_ _ | refine blk_drew ?_ | refine blk_alloc ?_ _)); refine blk_far ?_ NB431_446.out _; (with_reducible repeat (first | refine blk_drewN ?_ _ | refine blk_drew ?_ | refine blk_alloc ?_ _)); refine blk_far ?_ NB431_446.out _; (with_reducible repeat (first | refine blk_drewN ?_ _ | refine blk_drew ?_ | refine blk_alloc ?_ _)); refine blk_far ?_ NB431_446.out _; (with_reducible repeat (first | refine blk_drewN ?_ _ | refine blk_drew ?_ | refine blk_alloc ?_ _)); exact BK431.out) NB431_436.out (by simp)); replace BK432 := Aside0.mk (KeepBut.blk hk (g' := gb432) (o := .cells #[.int .i64 0, .slice none 0 0, .slice none 0 0] 30 (0, 0)) (by (with_reducible repeat (first | refine blk_drewN ?_ _ | refine blk_drew ?_ | refine blk_alloc ?_ _)); refine blk_far ?_ NB432_446.out _; (with_reducible repeat (first | refine blk_drewN ?_ _ | refine blk_drew ?_ | refine blk_alloc ?_ _)); refine blk_far ?_ NB432_446.out _; (with_reducible repeat (first | refine blk_drewN ?_ _ | refine blk_drew ?_ | refine blk_alloc ?_ _)); refine blk_far ?_ NB432_446.out _; (with_reducible repeat (first | refine blk_drewN ?_ _ | refine blk_drew ?_ | refine blk_alloc ?_ _)); exact BK432.out) NB432_436.out (by simp)); replace HO440 := Aside0.mk (Kd.R_mono (Kd.R_keep (IsS81.apart (show IsS81 w _ g436 t433 t444 t445 from i81a3_ HI436.out NB436_431.out NB436_432.out NB436_446.out) (by (with_reducible repeat (first | apply Kd.R_alloc | apply Kd.R_drewN | apply Kd.R_drew)); exact (Kd.R_mono (Kd.R_far (p := ⟨gb446, 2, none⟩) (Kd.R_far (p := ⟨gb446, 1, none⟩) (Kd.R_far (p := ⟨gb446, 0, none⟩) (Kd.R_types HO440.out BK446.out (by decide)) (fun _ hk => hk.2) (.int .i64 t437)) (fun _ hk => hk.2) (.slice Ao39 t438.length co39)) (fun _ hk => hk.2) (.slice Ao40 t441.length co40)) (fun _ h_ => h_.1))) (by decide)) hk (fun _ h => h.2)) (fun _ h => h.1)); replace HO443 := Aside0.mk (Kd.N_mono (Kd.N_keep (Kd.N_mono (ok := fun k_ => ((((w.heap.size ≤ k_)) ∧ (some k_ ≠ (.slice Ao39 t438.length co39 : Value).ownBlock ∧ (k_ ≠ gb431 ∧ (k_ ≠ gb432 ∧ k_ ≠ g436)))) ∧ k_ ≠ gb446)) (by (with_reducible repeat (first | apply Kd.N_alloc | apply Kd.N_drewN | apply Kd.N_drew)); exact (Kd.N_mono (Kd.N_far (p := ⟨gb446, 2, none⟩) (Kd.N_far (p := ⟨gb446, 1, none⟩) (Kd.N_far (p := ⟨gb446, 0, none⟩) (Kd.N_mono HO443.out (fun k_ hk => (⟨hk, hk.2⟩ : _ ∧ k_ ≠ gb446))) (fun _ hk => hk.2) (.int .i64 t437)) (fun _ hk => hk.2) (.slice Ao39 t438.length co39)) (fun _ hk => hk.2) (.slice Ao40 t441.length co40)) (fun _ h_ => h_.1))) (fun k_ hk_ => (⟨hk_, hk_.1.2.2.2.2⟩ : _ ∧ k_ ≠ g436))) hk (fun _ h => h.2)) (fun _ h => h.1)); replace BK446 := Aside0.mk (KeepBut.blk hk (g' := gb446) (o := .cells #[.int .i64 t437, .slice Ao39 t438.length co39, .slice Ao40 t441.length co40] 30 (0, 0)) (by (with_reducible repeat (first | refine blk_drewN ?_ _ | refine blk_drew ?_ | refine blk_alloc ?_ _)); refine blk_put (cs := #[.int .i64 t437, .slice Ao39 t438.length co39, .slice none 0 0]) ?_ 2 _ rfl; (with_reducible repeat (first | refine blk_drewN ?_ _ | refine blk_drew ?_ | refine blk_alloc ?_ _)); refine blk_put (cs := #[.int .i64 t437, .slice none 0 0, .slice none 0 0]) ?_ 1 _ rfl; (with_reducible repeat (first | refine blk_drewN ?_ _ | refine blk_drew ?_ | refine blk_alloc ?_ _)); refine blk_put (cs := #[.int .i64 0, .slice none 0 0, .slice none 0 0]) ?_ 0 _ rfl; (with_reducible repeat (first | refine blk_drewN ?_ _ | refine blk_drew ?_ | refine blk_alloc ?_ _)); exact BK446.out) NB446_436.out (by simp)); replace HB := Aside0.mk (hb); replace HI436 := Aside0.mk (hi); (try clear hb); (try clear hb2); (try clear hk); (try clear hi)))
  replace HO440 := Aside0.mk (Kd.R_drew HO440.out)
  replace HO443 := Aside0.mk (Kd.N_drew HO443.out)
  replace BK431 := Aside0.mk (blk_drew BK431.out)
  replace BK432 := Aside0.mk (blk_drew BK432.out)
  replace BK446 := Aside0.mk (blk_drew BK446.out)
  replace HI436 := Aside0.mk (IsS81.drew HI436.out)
  replace HB := Aside0.mk (below_drew1 HB.out)
  refine start_ (n := 5) (S := fun w' => w'.cell? ⟨gb446, 0, none⟩ = some (.int .i64 t437) ∧ w'.cell? ⟨gb446, 1, none⟩ = some (.slice Ao39 t438.length co39) ∧ w'.cell? ⟨gb446, 2, none⟩ = some (.slice Ao40 t441.length co40)) (ds := []) #[false, false, false, false, false] (by kernel_rfl) rfl rfl ⟨(blk_cell BK446.out 0).trans rfl, (blk_cell BK446.out 1).trans rfl, (blk_cell BK446.out 2).trans rfl⟩ (fun hHeld => ?_)
  generalize w41.drew = w42 at HO440 HO443 BK431 BK432 BK446 HI436 HB hHeld ⊢
  refine pure_ (i := 1) (N := some 16) (v := ?_) (a' := ?_) #[false, true, false, false, false] rfl rfl (by kernel_rfl) (fun _ _ _ h => h) (Or.inl ⟨by rfl, ?_⟩) ?_ ?_
  rotate_left
  ·intro w'
   go_simp
   with_reducible rfl
  rotate_left
  ·simp only [Act.put, List.setIfInBounds_toArray, List.set_cons_zero, List.set_cons_succ, i64_w, i32_w]
   rfl
  refine take_ (i := 0) (N := some 15) (v := ?_) (a' := ?_) #[true, true, false, false, false] rfl rfl (by kernel_rfl) (fun _ _ _ h => h) (Or.inl ⟨by rfl, ?_⟩) hHeld ?_ ?_
  rotate_left
  ·rintro w' ⟨s0, s1, s2⟩
   go_simp
   with_reducible rfl
  rotate_left
  ·simp only [Act.put, List.setIfInBounds_toArray, List.set_cons_zero, List.set_cons_succ, i64_w, i32_w]
   rfl
  refine one_ (i := 2) (N := some 17) #[true, true, true, false, false] rfl rfl (by kernel_rfl) (by decide) (fun K hK => ?_)
  refine goes_ Try.func54 (by kernel_rfl) rfl #[.pointer (some ⟨g436, 0, none⟩)] (by rfl) rfl rfl ma_ ?_
  with_reducible refine (spec_l3Bent.calls k g436 t433 t448 t449 t457 t458 t461 t464 t465 w _ ?side1 ?side2 A29.out).mono ?_
  (case side1 => repeat (first | (with_reducible first | exact HI436.out | apply IsS81.alloc | apply IsS81.drewN | apply IsS81.drew | apply IsS81.set_1 | apply IsS81.set_2 | refine IsS81.far ?_ NB436_431.out _ | refine IsS81.far ?_ NB436_432.out _ | refine IsS81.far ?_ NB436_446.out _) | exact HI436.out))
  (case side2 => repeat (first | (with_reducible first | exact HB.out | apply below_alloc | apply pw_below_drewN | apply below_drew1 | refine below_set ?_ (IsS81.ge HI436.out) | refine below_set ?_ GE431.out | refine below_set ?_ GE432.out | refine below_set ?_ GE446.out) | exact HB.out))
  rintro e w43 ⟨v459, v462, rfl, ho0, ho1, hi, hb, hk⟩
  refine ⟨_, rfl, ?_⟩
  have HO460 := Aside0.mk (Kd.R_lower (Kd.R_new' (Kd.R_newM (M := fun k_ => (w.heap.size ≤ k_)) (Kd.R_mono (ok' := fun k_ => True) ho0 (fun _ hk_ => trivial)) (below_size (B4_ HB.out (IsS81.ge HI436.out) GE431.out GE432.out GE446.out)) (fun k_ h_ => h_)) (Kd.R_lt (R_ HO440.out))) (below_size (B4_ HB.out (IsS81.ge HI436.out) GE431.out GE432.out GE446.out)))
  have HO463 := Aside0.mk (Kd.N_lower (Kd.N_mono (ok' := fun k_ => (w.heap.size ≤ k_) ∧ some k_ ≠ (v459 : Value).ownBlock ∧ some k_ ≠ (.slice Ao39 t438.length co39 : Value).ownBlock ∧ some k_ ≠ (.slice Ao40 t441.length co40 : Value).ownBlock ∧ k_ ≠ gb431 ∧ k_ ≠ gb432 ∧ k_ ≠ gb446 ∧ k_ ≠ g436) ho1 (fun k_ hk_ => ⟨(Nat.le_trans (below_size (B4_ HB.out (IsS81.ge HI436.out) GE431.out GE432.out GE446.out)) hk_.1), hk_.2, (Kd.fresh' (Kd.R_lt (R_ HO440.out)) k_ hk_.1), (Kd.fresh' (Kd.N_lt (N_ HO443.out)) k_ hk_.1), (Kd.freshB (K_ BK431.out) k_ hk_.1), (Kd.freshB (K_ BK432.out) k_ hk_.1), (Kd.freshB (K_ BK446.out) k_ hk_.1), (IsS81.fresh (i81a3_ HI436.out NB436_431.out NB436_432.out NB436_446.out) k_ hk_.1)⟩)) (below_size (B4_ HB.out (IsS81.ge HI436.out) GE431.out GE432.out GE446.out)))
  replace BK431 := Aside0.mk (KeepBut.blk hk (g' := gb431) (o := .cells #[.int .i64 0, .slice none 0 0, .slice none 0 0] 30 (0, 0)) (K_ BK431.out) NB431_436.out (by simp))
  replace BK432 := Aside0.mk (KeepBut.blk hk (g' := gb432) (o := .cells #[.int .i64 0, .slice none 0 0, .slice none 0 0] 30 (0, 0)) (K_ BK432.out) NB432_436.out (by simp))
  replace HO440 := Aside0.mk (Kd.R_mono (Kd.R_told (Kd.R_oldK (IsS81.apart (show IsS81 w _ g436 t433 t448 t449 from i81a3_ HI436.out NB436_431.out NB436_432.out NB436_446.out) (R_ HO440.out) (by decide)) hk) (Kd.R_base ho0)) (fun _ h_ => h_.1))
  replace HO443 := Aside0.mk (Kd.N_mono (Kd.N_told (Kd.N_told (Kd.N_oldK (Kd.N_mono (ok := fun k_ => ((((w.heap.size ≤ k_)) ∧ (some k_ ≠ (.slice Ao39 t438.length co39 : Value).ownBlock ∧ (k_ ≠ gb431 ∧ (k_ ≠ gb432 ∧ k_ ≠ g436)))) ∧ k_ ≠ gb446)) (N_ HO443.out) (fun k_ hk_ => (⟨hk_, hk_.1.2.2.2.2⟩ : _ ∧ k_ ≠ g436))) hk) (Kd.R_base ho0)) (Kd.N_base ho1)) (fun _ h_ => h_.1))
  replace BK446 := Aside0.mk (KeepBut.blk hk (g' := gb446) (o := .cells #[.int .i64 t437, .slice Ao39 t438.length co39, .slice Ao40 t441.length co40] 30 (0, 0)) (K_ BK446.out) NB446_436.out (by simp))
  replace HB := Aside0.mk (hb)
  replace HI436 := Aside0.mk (hi)
  (try clear hb)
  (try clear hb2)
  (try clear hk)
  (try clear hi)
  (try clear ho0)
  (try clear ho1)
  obtain ⟨Ao48, co48, eo48⟩ := Kd.R_slice HO460.out
  (first | subst eo48 | (injection eo48 with f1_ f2_ f3_; have f4_ := f1_.symm; have f5_ := f3_.symm; clear f1_ f2_ f3_; subst f4_; subst f5_))
  obtain ⟨Ao50, co50, eo50⟩ := Kd.N_slice HO463.out
  (first | subst eo50 | (injection eo50 with f1_ f2_ f3_; have f4_ := f1_.symm; have f5_ := f3_.symm; clear f1_ f2_ f3_; subst f4_; subst f5_))
  refine hK.out _ _ ⟨(blk_cell BK446.out 0).trans rfl, (blk_cell BK446.out 1).trans rfl, (blk_cell BK446.out 2).trans rfl⟩ (fun hHeld => ?_)
  clear hK K
  refine nm_ (some 17) ?_
  refine one_ (i := 3) (N := none) #[true, true, true, true, false] rfl rfl (by kernel_rfl) (by decide) (fun K hK => ?_)
  have hs44 : w43.cell? ⟨gb431, 0, none⟩ = some (.int .i64 0) := (blk_cell BK431.out 0).trans rfl
  have hfs44 := blk_frozen BK431.out 0
  have hns44_1 := NB432_431.out
  have hns44_2 := NB446_431.out
  have hms44_1 := NB431_432.out
  have hms44_2 := NB431_446.out
  have hs45 : w43.cell? ⟨gb431, 1, none⟩ = some (.slice none 0 0) := (blk_cell BK431.out 1).trans rfl
  have hfs45 := blk_frozen BK431.out 1
  have hns45_1 := NB432_431.out
  have hns45_2 := NB446_431.out
  have hms45_1 := NB431_432.out
  have hms45_2 := NB431_446.out
  have hs46 : w43.cell? ⟨gb431, 2, none⟩ = some (.slice none 0 0) := (blk_cell BK431.out 2).trans rfl
  have hfs46 := blk_frozen BK431.out 2
  have hns46_1 := NB432_431.out
  have hns46_2 := NB446_431.out
  have hms46_1 := NB431_432.out
  have hms46_2 := NB431_446.out
  refine skip_ (w1 := ?_) (by rfl) rfl ?_ ?_
  rotate_left
  ·go_simp
   rfl
  refine hK.out _ _ ⟨((cell_far (p := ⟨gb431, _, none⟩) NB446_431.out _).trans (((cell_far (p := ⟨gb431, _, none⟩) NB446_431.out _).trans (((cell_far (p := ⟨gb431, _, none⟩) NB446_431.out _).trans (hHeld.1)))))), ((cell_far (p := ⟨gb431, _, none⟩) NB446_431.out _).trans (((cell_far (p := ⟨gb431, _, none⟩) NB446_431.out _).trans (((cell_far (p := ⟨gb431, _, none⟩) NB446_431.out _).trans (hHeld.2.1)))))), ((cell_far (p := ⟨gb431, _, none⟩) NB446_431.out _).trans (((cell_far (p := ⟨gb431, _, none⟩) NB446_431.out _).trans (((cell_far (p := ⟨gb431, _, none⟩) NB446_431.out _).trans (hHeld.2.2))))))⟩ (fun hHeld => ?_)
  clear hK K
  refine one_ (i := 4) (N := none) #[true, true, true, true, true] rfl rfl (by kernel_rfl) (by decide) (fun K hK => ?_)
  have hs47 : w43.cell? ⟨gb432, 0, none⟩ = some (.int .i64 0) := (blk_cell BK432.out 0).trans rfl
  have hfs47 := blk_frozen BK432.out 0
  have hns47_0 := NB431_432.out
  have hns47_2 := NB446_432.out
  have hms47_0 := NB432_431.out
  have hms47_2 := NB432_446.out
  have hs49 : w43.cell? ⟨gb432, 1, none⟩ = some (.slice none 0 0) := (blk_cell BK432.out 1).trans rfl
  have hfs49 := blk_frozen BK432.out 1
  have hns49_0 := NB431_432.out
  have hns49_2 := NB446_432.out
  have hms49_0 := NB432_431.out
  have hms49_2 := NB432_446.out
  have hs51 : w43.cell? ⟨gb432, 2, none⟩ = some (.slice none 0 0) := (blk_cell BK432.out 2).trans rfl
  have hfs51 := blk_frozen BK432.out 2
  have hns51_0 := NB431_432.out
  have hns51_2 := NB446_432.out
  have hms51_0 := NB432_431.out
  have hms51_2 := NB432_446.out
  refine skip_ (w1 := ?_) (by rfl) rfl ?_ ?_
  rotate_left
  ·go_simp
   rfl
  refine hK.out _ _ ⟨((cell_far (p := ⟨gb432, _, none⟩) NB446_432.out _).trans (((cell_far (p := ⟨gb432, _, none⟩) NB446_432.out _).trans (((cell_far (p := ⟨gb432, _, none⟩) NB446_432.out _).trans (hHeld.1)))))), ((cell_far (p := ⟨gb432, _, none⟩) NB446_432.out _).trans (((cell_far (p := ⟨gb432, _, none⟩) NB446_432.out _).trans (((cell_far (p := ⟨gb432, _, none⟩) NB446_432.out _).trans (hHeld.2.1)))))), ((cell_far (p := ⟨gb432, _, none⟩) NB446_432.out _).trans (((cell_far (p := ⟨gb432, _, none⟩) NB446_432.out _).trans (((cell_far (p := ⟨gb432, _, none⟩) NB446_432.out _).trans (hHeld.2.2))))))⟩ (fun hHeld => ?_)
  clear hK K
  refine done_ (by kernel_rfl) ?_
  try go_wp2
  refine bodyPost_ret (results_cc rfl _ _ gb431 gb432 30 30 #[.int .i64 t437, .slice Ao39 t438.length co39, .slice Ao40 t441.length co40] #[.int .i64 t457, .slice Ao48 t458.length co48, .slice Ao50 t461.length co50] (0, 0) (0, 0) _ _ rfl (by (with_reducible repeat (first | refine blk_drewN ?_ _ | refine blk_drew ?_ | refine blk_alloc ?_ _)); refine blk_far ?_ NB431_432.out _; (with_reducible repeat (first | refine blk_drewN ?_ _ | refine blk_drew ?_ | refine blk_alloc ?_ _)); refine blk_far ?_ NB431_432.out _; (with_reducible repeat (first | refine blk_drewN ?_ _ | refine blk_drew ?_ | refine blk_alloc ?_ _)); refine blk_far ?_ NB431_432.out _; (with_reducible repeat (first | refine blk_drewN ?_ _ | refine blk_drew ?_ | refine blk_alloc ?_ _)); refine blk_put (cs := #[.int .i64 t437, .slice Ao39 t438.length co39, .slice none 0 0]) ?_ 2 _ rfl; (with_reducible repeat (first | refine blk_drewN ?_ _ | refine blk_drew ?_ | refine blk_alloc ?_ _)); refine blk_put (cs := #[.int .i64 t437, .slice none 0 0, .slice none 0 0]) ?_ 1 _ rfl; (with_reducible repeat (first | refine blk_drewN ?_ _ | refine blk_drew ?_ | refine blk_alloc ?_ _)); refine blk_put (cs := #[.int .i64 0, .slice none 0 0, .slice none 0 0]) ?_ 0 _ rfl; (with_reducible repeat (first | refine blk_drewN ?_ _ | refine blk_drew ?_ | refine blk_alloc ?_ _)); exact BK431.out) Try.underlying30 rfl (by kernel_rfl) rfl (by (with_reducible repeat (first | refine blk_drewN ?_ _ | refine blk_drew ?_ | refine blk_alloc ?_ _)); refine blk_put (cs := #[.int .i64 t457, .slice Ao48 t458.length co48, .slice none 0 0]) ?_ 2 _ rfl; (with_reducible repeat (first | refine blk_drewN ?_ _ | refine blk_drew ?_ | refine blk_alloc ?_ _)); refine blk_put (cs := #[.int .i64 t457, .slice none 0 0, .slice none 0 0]) ?_ 1 _ rfl; (with_reducible repeat (first | refine blk_drewN ?_ _ | refine blk_drew ?_ | refine blk_alloc ?_ _)); refine blk_put (cs := #[.int .i64 0, .slice none 0 0, .slice none 0 0]) ?_ 0 _ rfl; (with_reducible repeat (first | refine blk_drewN ?_ _ | refine blk_drew ?_ | refine blk_alloc ?_ _)); refine blk_far ?_ NB432_431.out _; (with_reducible repeat (first | refine blk_drewN ?_ _ | refine blk_drew ?_ | refine blk_alloc ?_ _)); refine blk_far ?_ NB432_431.out _; (with_reducible repeat (first | refine blk_drewN ?_ _ | refine blk_drew ?_ | refine blk_alloc ?_ _)); refine blk_far ?_ NB432_431.out _; (with_reducible repeat (first | refine blk_drewN ?_ _ | refine blk_drew ?_ | refine blk_alloc ?_ _)); exact BK432.out) Try.underlying30 rfl (by kernel_rfl)) rfl ?_
  exact ⟨_, _, _, _, er_, by (with_reducible repeat (first | apply Kd.R_alloc | apply Kd.R_drewN | apply Kd.R_drew)); exact Kd.R_mono (Kd.R_far (p := ⟨gb432, 2, none⟩) (Kd.R_far (p := ⟨gb432, 1, none⟩) (Kd.R_far (p := ⟨gb432, 0, none⟩) (Kd.R_far (p := ⟨gb431, 2, none⟩) (Kd.R_far (p := ⟨gb431, 1, none⟩) (Kd.R_far (p := ⟨gb431, 0, none⟩) (Kd.R_types (Kd.R_types HO440.out BK431.out (by decide)) BK432.out (by decide)) (fun _ hk => hk.1.2) (.int .i64 t437)) (fun _ hk => hk.1.2) (.slice Ao39 t438.length co39)) (fun _ hk => hk.1.2) (.slice Ao40 t441.length co40)) (fun _ hk => hk.2) (.int .i64 t457)) (fun _ hk => hk.2) (.slice Ao48 t458.length co48)) (fun _ hk => hk.2) (.slice Ao50 t461.length co50)) (fun _ hk => ⟨hk.1.1.1.1, hk.1.1.2⟩), by (with_reducible repeat (first | apply Kd.N_alloc | apply Kd.N_drewN | apply Kd.N_drew)); exact Kd.N_mono (Kd.N_far (p := ⟨gb432, 2, none⟩) (Kd.N_far (p := ⟨gb432, 1, none⟩) (Kd.N_far (p := ⟨gb432, 0, none⟩) (Kd.N_far (p := ⟨gb431, 2, none⟩) (Kd.N_far (p := ⟨gb431, 1, none⟩) (Kd.N_far (p := ⟨gb431, 0, none⟩) (Kd.N_mono (Kd.N_mono HO443.out (fun k_ hk => (⟨hk, hk.1.1.1.2.2.1⟩ : _ ∧ k_ ≠ gb431))) (fun k_ hk => (⟨hk, hk.1.1.1.1.2.2.2.1⟩ : _ ∧ k_ ≠ gb432))) (fun _ hk => hk.1.2) (.int .i64 t437)) (fun _ hk => hk.1.2) (.slice Ao39 t438.length co39)) (fun _ hk => hk.1.2) (.slice Ao40 t441.length co40)) (fun _ hk => hk.2) (.int .i64 t457)) (fun _ hk => hk.2) (.slice Ao48 t458.length co48)) (fun _ hk => hk.2) (.slice Ao50 t461.length co50)) (fun _ hk => ⟨hk.1.1.1.1.1.1, ⟨hk.1.1.1.1.1.2.1, ⟨hk.1.1.1.2, hk.1.1.2⟩⟩⟩), by (with_reducible repeat (first | apply Kd.R_alloc | apply Kd.R_drewN | apply Kd.R_drew)); exact Kd.R_mono (Kd.R_far (p := ⟨gb432, 2, none⟩) (Kd.R_far (p := ⟨gb432, 1, none⟩) (Kd.R_far (p := ⟨gb432, 0, none⟩) (Kd.R_far (p := ⟨gb431, 2, none⟩) (Kd.R_far (p := ⟨gb431, 1, none⟩) (Kd.R_far (p := ⟨gb431, 0, none⟩) (Kd.R_types (Kd.R_types HO460.out BK431.out (by decide)) BK432.out (by decide)) (fun _ hk => hk.1.2) (.int .i64 t437)) (fun _ hk => hk.1.2) (.slice Ao39 t438.length co39)) (fun _ hk => hk.1.2) (.slice Ao40 t441.length co40)) (fun _ hk => hk.2) (.int .i64 t457)) (fun _ hk => hk.2) (.slice Ao48 t458.length co48)) (fun _ hk => hk.2) (.slice Ao50 t461.length co50)) (fun _ hk => ⟨hk.1.1.1.1, hk.1.1.2⟩), by (with_reducible repeat (first | apply Kd.N_alloc | apply Kd.N_drewN | apply Kd.N_drew)); exact Kd.N_mono (Kd.N_far (p := ⟨gb432, 2, none⟩) (Kd.N_far (p := ⟨gb432, 1, none⟩) (Kd.N_far (p := ⟨gb432, 0, none⟩) (Kd.N_far (p := ⟨gb431, 2, none⟩) (Kd.N_far (p := ⟨gb431, 1, none⟩) (Kd.N_far (p := ⟨gb431, 0, none⟩) (Kd.N_mono (Kd.N_mono HO463.out (fun k_ hk => (⟨hk, hk.2.2.2.2.1⟩ : _ ∧ k_ ≠ gb431))) (fun k_ hk => (⟨hk, hk.1.2.2.2.2.2.1⟩ : _ ∧ k_ ≠ gb432))) (fun _ hk => hk.1.2) (.int .i64 t437)) (fun _ hk => hk.1.2) (.slice Ao39 t438.length co39)) (fun _ hk => hk.1.2) (.slice Ao40 t441.length co40)) (fun _ hk => hk.2) (.int .i64 t457)) (fun _ hk => hk.2) (.slice Ao48 t458.length co48)) (fun _ hk => hk.2) (.slice Ao50 t461.length co50)) (fun _ hk => ⟨hk.1.1.1, ⟨hk.1.1.2.2.1, ⟨hk.1.1.2.2.2.1, hk.1.1.2.1⟩⟩⟩), B4_ HB.out (IsS81.ge HI436.out) GE431.out GE432.out GE446.out⟩

/-! ### spec_DrawPartType: function 31 -/
def spec_DrawPartType.f (k : Nat) (l0 : List Int) : Option (Int × List ByteArray × (List (S30)) × ByteArray) := (spec_l1New.f k l0).bind fun bt467 => ((spec_l3Bent.f k bt467.1 bt467.2.1 bt467.2.2).bind fun bt471 => ((spec_l1Pick.f bt467.1 bt471.2.2.2.1 bt471.2.2.2.2 (([(⟨#[97]⟩ : ByteArray), (⟨#[98]⟩ : ByteArray), (⟨#[112]⟩ : ByteArray), (⟨#[122]⟩ : ByteArray)] : List ByteArray))).bind fun bt484 => (some (bt471.1, bt471.2.1, bt471.2.2.1, bt484.1))))
theorem spec_DrawPartType.mono : ∀ a0 k, LeO (spec_DrawPartType.f k a0) (spec_DrawPartType.f (k + 1) a0) := by
 intro a0 k
 unfold spec_DrawPartType.f
 repeat' first
   | (with_reducible exact spec_l1New.mono _ _)
   | (with_reducible exact spec_l3Bent.mono _ _ _ _)
   | (with_reducible exact LeO.refl _)
   | (with_reducible exact LeO.none _)
   | (with_reducible refine LeO.ite ?_ ?_)
   | (with_reducible refine LeO.bind ?_ (fun _ => ?_))
   | exact spec_l1New.mono _ _
   | exact spec_l3Bent.mono _ _ _ _
   | exact LeO.none _
   | refine LeO.ite ?_ ?_
   | refine LeO.bind ?_ (fun _ => ?_)
set_option maxHeartbeats 8000000 in
set_option maxRecDepth 100000 in
theorem spec_DrawPartType.calls (k : Nat) (A0 : Option Addr) (c0 : Nat) (l0 : List Int) (r1 : Int) (r2 : List ByteArray) (r3 : List (S30)) (r4 : ByteArray) (w : World) (hr0 : Kd.C (Kd.int .u8) w A0 l0.length l0) (hc0 : l0.length ≤ c0) (h : spec_DrawPartType.f k l0 = some (r1, r2, r3, r4)) :
  Calls Try.prog 31 #[.slice A0 l0.length c0] w fun e w' => ∃ v1_ v2_ : Value, e = .returned (.tuple #[.agg #[.int .i64 r1, v1_, v2_], .string r4]) ∧ Kd.R Kd.string 9 w' w.heap.size (fun k_ => (w.heap.size ≤ k_)) v1_ r2 ∧ Kd.N k30 30 w' w.heap.size (fun k_ => (w.heap.size ≤ k_) ∧ some k_ ≠ (v1_ : Value).ownBlock) v2_ r3 ∧ Below w.heap.size w w' := by
 have hu30 := Try.underlying30
 have HR0 := Aside0.mk hr0
 have HC0 := Aside0.mk hc0
 clear hr0 hc0
 have HB := Aside0.mk (Below.refl w.heap.size w)
 have H : ((spec_l1New.f k l0).bind fun bt467 => ((spec_l3Bent.f k bt467.1 bt467.2.1 bt467.2.2).bind fun bt471 => ((spec_l1Pick.f bt467.1 bt471.2.2.2.1 bt471.2.2.2.2 (([(⟨#[97]⟩ : ByteArray), (⟨#[98]⟩ : ByteArray), (⟨#[112]⟩ : ByteArray), (⟨#[122]⟩ : ByteArray)] : List ByteArray))).bind fun bt484 => (some (bt471.1, bt471.2.1, bt471.2.2.1, bt484.1))))) = some (r1, r2, r3, r4) := h
 clear h
 replace H := Option.bind_eq_some_iff.mp H
 obtain ⟨⟨t467, t468, t469⟩, A20, H⟩ := H
 replace H : ((spec_l3Bent.f k t467 t468 t469).bind fun bt471 => ((spec_l1Pick.f t467 bt471.2.2.2.1 bt471.2.2.2.2 (([(⟨#[97]⟩ : ByteArray), (⟨#[98]⟩ : ByteArray), (⟨#[112]⟩ : ByteArray), (⟨#[122]⟩ : ByteArray)] : List ByteArray))).bind fun bt484 => (some (bt471.1, bt471.2.1, bt471.2.2.1, bt484.1)))) = some (r1, r2, r3, r4) := H
 have A2 := Aside0.mk A20
 clear A20
 replace H := Option.bind_eq_some_iff.mp H
 obtain ⟨⟨t471, t472, t475, t478, t479⟩, A30, H⟩ := H
 replace H : ((spec_l1Pick.f t467 t478 t479 (([(⟨#[97]⟩ : ByteArray), (⟨#[98]⟩ : ByteArray), (⟨#[112]⟩ : ByteArray), (⟨#[122]⟩ : ByteArray)] : List ByteArray))).bind fun bt484 => (some (t471, t472, t475, bt484.1))) = some (r1, r2, r3, r4) := H
 have A3 := Aside0.mk A30
 clear A30
 obtain ⟨y481, hy481⟩ : ∃ y_ : List ByteArray, y_ = (([(⟨#[97]⟩ : ByteArray), (⟨#[98]⟩ : ByteArray), (⟨#[112]⟩ : ByteArray), (⟨#[122]⟩ : ByteArray)] : List ByteArray)) := ⟨_, rfl⟩
 replace H : ((spec_l1Pick.f t467 t478 t479 y481).bind fun bt484 => (some (t471, t472, t475, bt484.1))) = some (r1, r2, r3, r4) := by first | (rw [hy481]; with_reducible exact H) | (have H2_ := (Option.bind_some _ _).symm.trans H; rw [hy481]; with_reducible exact H2_) | (have H2_ := (Option.bind_some _ _).symm.trans H; with_reducible exact H2_) | with_reducible exact H | (rw [hy481]; exact H) | exact H
 have Ny481 := Aside0.mk hy481
 clear hy481
 replace H := Option.bind_eq_some_iff.mp H
 obtain ⟨⟨t484, t485, t486⟩, A40, H⟩ := H
 replace H : (some (t471, t472, t475, t484)) = some (r1, r2, r3, r4) := H
 have A4 := Aside0.mk A40
 clear A40
 simp only [Option.some.injEq, Prod.mk.injEq] at H
 obtain ⟨rfl, rfl, rfl, rfl⟩ := H
 go_enter Try.func31, Try.ntmps31
 try go_wp2_with (first | ((with_reducible refine gate_dst (N := 2) rfl ?_); refine box_event ?hg (N := 2) ?hd (cs := #[.int .i64 0, .slice none 0 0, .slice none 0 0]) (t := 30) ?hr ?_; (case hd => rfl); (case hg => rfl); (case hr => first | (go_simp; done) | (go_simp; rfl)); intro gb466 hg w5 hbox hb; have BK466 := Aside0.mk (hbox); have GW466 := Aside0.mk ((by rw [hg]; exact (below_size (B0_ HB.out)) : w.heap.size ≤ gb466)); have GE466 := Aside0.mk ((by rw [hg]; exact (below_size (B0_ HB.out)) : w.heap.size ≤ gb466)); replace HB := Aside0.mk (below_step (B0_ HB.out) hb); clear hb hbox hg) | ((with_reducible refine gate_callee (f := 55) rfl ?_); refine goesL_ (some 7) rfl rfl Try.func55 (by kernel_rfl) rfl #[.slice A0 l0.length c0] rfl ma_ ?_; (with_reducible refine (spec_l1New.calls k _ _ l0 t467 t468 t469 w _ ?side1 ?side2 ?side3 A2.out).mono ?_); (case side1 => repeat (first | (with_reducible first | exact HB.out | apply below_alloc | apply pw_below_drewN | apply below_drew1 | refine below_set ?_ GE466.out) | exact HB.out)); (case side2 => exact HR0.out); (case side3 => exact HC0.out); rintro e w6 ⟨g470, rfl, hi, hb, hb2⟩; refine ⟨_, rfl, ?_⟩; replace HB := Aside0.mk (hb); have HI470 := Aside0.mk (hi); have NB470_466 := Aside0.mk (IsS81.ne_blk hi (blk_below (K_ BK466.out) hb2) (by decide)); have NB466_470 := Aside0.mk (Ne.symm (IsS81.ne_blk hi (blk_below (K_ BK466.out) hb2) (by decide))); replace BK466 := Aside0.mk (blk_below (K_ BK466.out) hb2); (try clear hb); (try clear hb2); (try clear hk); (try clear hi)) | ((with_reducible refine gate_callee (f := 54) rfl ?_); refine goesL_ (some 9) rfl rfl Try.func54 (by kernel_rfl) rfl #[.pointer (some ⟨g470, 0, none⟩)] rfl ma_ ?_; (with_reducible refine (spec_l3Bent.calls k g470 t467 t468 t469 t471 t472 t475 t478 t479 w _ ?side1 ?side2 A3.out).mono ?_); (case side1 => repeat (first | (with_reducible first | exact HI470.out | apply IsS81.alloc | apply IsS81.drewN | apply IsS81.drew | apply IsS81.set_1 | apply IsS81.set_2 | refine IsS81.far ?_ NB470_466.out _) | exact HI470.out)); (case side2 => repeat (first | (with_reducible first | exact HB.out | apply below_alloc | apply pw_below_drewN | apply below_drew1 | refine below_set ?_ (IsS81.ge HI470.out) | refine below_set ?_ GE466.out) | exact HB.out)); rintro e w7 ⟨v473, v476, rfl, ho0, ho1, hi, hb, hk⟩; refine ⟨_, rfl, ?_⟩; have HO474 := Aside0.mk (Kd.R_lower (Kd.R_newM (M := fun k_ => (w.heap.size ≤ k_)) (Kd.R_mono (ok' := fun k_ => True) ho0 (fun _ hk_ => trivial)) (below_size (B2_ HB.out (IsS81.ge HI470.out) GE466.out)) (fun k_ h_ => h_)) (below_size (B2_ HB.out (IsS81.ge HI470.out) GE466.out))); have HO477 := Aside0.mk (Kd.N_lower (Kd.N_mono (ok' := fun k_ => (w.heap.size ≤ k_) ∧ some k_ ≠ (v473 : Value).ownBlock ∧ k_ ≠ gb466 ∧ k_ ≠ g470) ho1 (fun k_ hk_ => ⟨(Nat.le_trans (below_size (B2_ HB.out (IsS81.ge HI470.out) GE466.out)) hk_.1), hk_.2, (Kd.freshB (K_ BK466.out) k_ hk_.1), (IsS81.fresh (i81a1_ HI470.out NB470_466.out) k_ hk_.1)⟩)) (below_size (B2_ HB.out (IsS81.ge HI470.out) GE466.out))); replace BK466 := Aside0.mk (KeepBut.blk hk (g' := gb466) (o := .cells #[.int .i64 0, .slice none 0 0, .slice none 0 0] 30 (0, 0)) (K_ BK466.out) NB466_470.out (by simp)); replace HB := Aside0.mk (hb); replace HI470 := Aside0.mk (hi); (try clear hb); (try clear hb2); (try clear hk); (try clear hi); (try clear ho0); (try clear ho1)) | ((with_reducible refine gate_dst (N := 5) rfl ?_); refine box_event ?hg (N := 5) ?hd (cs := #[.int .i64 0, .slice none 0 0, .slice none 0 0]) (t := 30) ?hr ?_; (case hd => rfl); (case hg => rfl); (case hr => first | (go_simp; done) | (go_simp; rfl)); intro gb480 hg w8 hbox hb; replace HO474 := rb_ HO474 hb; replace HO477 := Aside0.mk (Kd.N_below (Kd.N_elderB (N_ HO477.out) gb480 (Nat.le_of_eq hg.symm)) hb); have BK480 := Aside0.mk (hbox); have GW480 := Aside0.mk ((by rw [hg]; exact (below_size (B2_ HB.out (IsS81.ge HI470.out) GE466.out)) : w.heap.size ≤ gb480)); have GE480 := Aside0.mk ((by rw [hg]; exact (below_size (B2_ HB.out (IsS81.ge HI470.out) GE466.out)) : w.heap.size ≤ gb480)); replace HB := Aside0.mk (below_step (B2_ HB.out (IsS81.ge HI470.out) GE466.out) hb); have NB466_480 := Aside0.mk ((by rw [hg]; exact Nat.ne_of_lt (blk_lt (K_ BK466.out)) : gb466 ≠ gb480)); have NB480_466 := Aside0.mk ((by rw [hg]; exact Nat.ne_of_gt (blk_lt (K_ BK466.out)) : gb480 ≠ gb466)); replace BK466 := kb_ BK466 hb; have NB470_480 := Aside0.mk ((by rw [hg]; exact Nat.ne_of_lt (IsS81.lt (show IsS81 w _ g470 t467 t478 t479 from i81a1_ HI470.out NB470_466.out)) : g470 ≠ gb480)); have NB480_470 := Aside0.mk ((by rw [hg]; exact Nat.ne_of_gt (IsS81.lt (show IsS81 w _ g470 t467 t478 t479 from i81a1_ HI470.out NB470_466.out)) : gb480 ≠ g470)); replace HI470 := Aside0.mk (IsS81.below (i81a1_ HI470.out NB470_466.out) hb); clear hb hbox hg; have hnb9 := NB480_466.out; have hnc9 := NB466_480.out; have hnb10 := NB480_470.out; have hnc10 := NB470_480.out; obtain ⟨hcz11_0, hcz11_1, hcz11_2, hfz11_0, hfz11_1, hfz11_2⟩ := box3_ BK480.out; obtain ⟨Ao12, co12, eo12⟩ := Kd.R_slice HO474.out; subst eo12; obtain ⟨Ao13, co13, eo13⟩ := Kd.N_slice HO477.out; subst eo13))
 have n0_ : Aside0 (Kd.R Kd.string 9 (((w8.setCell ⟨gb480, 0, none⟩ (.int .i64 t471)).setCell ⟨gb480, 1, none⟩ (.slice Ao12 t472.length co12)).setCell ⟨gb480, 2, none⟩ (.slice Ao13 t475.length co13)) w.heap.size (fun k_ => (w.heap.size ≤ k_)) (.slice Ao12 t472.length co12) t472) := ⟨by (with_reducible repeat (first | apply Kd.R_alloc | apply Kd.R_drewN | apply Kd.R_drew)); exact Kd.R_mono (Kd.R_far (p := ⟨gb480, 2, none⟩) (Kd.R_far (p := ⟨gb480, 1, none⟩) (Kd.R_far (p := ⟨gb480, 0, none⟩) (Kd.R_types HO474.out BK480.out (by decide)) (fun _ hk => hk.2) (.int .i64 t471)) (fun _ hk => hk.2) (.slice Ao12 t472.length co12)) (fun _ hk => hk.2) (.slice Ao13 t475.length co13)) (fun _ hk => hk.1.1)⟩
 have n1_ : Aside0 (Kd.N k30 30 (((w8.setCell ⟨gb480, 0, none⟩ (.int .i64 t471)).setCell ⟨gb480, 1, none⟩ (.slice Ao12 t472.length co12)).setCell ⟨gb480, 2, none⟩ (.slice Ao13 t475.length co13)) w.heap.size (fun k_ => (w.heap.size ≤ k_) ∧ some k_ ≠ (.slice Ao12 t472.length co12 : Value).ownBlock ∧ k_ ≠ gb466 ∧ k_ ≠ g470 ∧ k_ ≠ gb480) (.slice Ao13 t475.length co13) t475) := ⟨by (with_reducible repeat (first | apply Kd.N_alloc | apply Kd.N_drewN | apply Kd.N_drew)); exact Kd.N_mono (Kd.N_far (p := ⟨gb480, 2, none⟩) (Kd.N_far (p := ⟨gb480, 1, none⟩) (Kd.N_far (p := ⟨gb480, 0, none⟩) (Kd.N_mono HO477.out (fun k_ hk => (⟨hk, hk.2⟩ : _ ∧ k_ ≠ gb480))) (fun _ hk => hk.2) (.int .i64 t471)) (fun _ hk => hk.2) (.slice Ao12 t472.length co12)) (fun _ hk => hk.2) (.slice Ao13 t475.length co13)) (fun _ hk => ⟨hk.1.1.1, ⟨hk.1.1.2.1, ⟨hk.1.1.2.2.1, ⟨hk.1.1.2.2.2, hk.1.2⟩⟩⟩⟩)⟩
 have n2_ : Aside0 ((((w8.setCell ⟨gb480, 0, none⟩ (.int .i64 t471)).setCell ⟨gb480, 1, none⟩ (.slice Ao12 t472.length co12)).setCell ⟨gb480, 2, none⟩ (.slice Ao13 t475.length co13)).heap[gb466]? = some (.cells #[.int .i64 0, .slice none 0 0, .slice none 0 0] 30 (0, 0))) := ⟨by (with_reducible repeat (first | refine blk_drewN ?_ _ | refine blk_drew ?_ | refine blk_alloc ?_ _)); refine blk_far ?_ NB466_480.out _; (with_reducible repeat (first | refine blk_drewN ?_ _ | refine blk_drew ?_ | refine blk_alloc ?_ _)); refine blk_far ?_ NB466_480.out _; (with_reducible repeat (first | refine blk_drewN ?_ _ | refine blk_drew ?_ | refine blk_alloc ?_ _)); refine blk_far ?_ NB466_480.out _; (with_reducible repeat (first | refine blk_drewN ?_ _ | refine blk_drew ?_ | refine blk_alloc ?_ _)); exact BK466.out⟩
 have n3_ : Aside0 ((((w8.setCell ⟨gb480, 0, none⟩ (.int .i64 t471)).setCell ⟨gb480, 1, none⟩ (.slice Ao12 t472.length co12)).setCell ⟨gb480, 2, none⟩ (.slice Ao13 t475.length co13)).heap[gb480]? = some (.cells #[.int .i64 t471, .slice Ao12 t472.length co12, .slice Ao13 t475.length co13] 30 (0, 0))) := ⟨by (with_reducible repeat (first | refine blk_drewN ?_ _ | refine blk_drew ?_ | refine blk_alloc ?_ _)); refine blk_put (cs := #[.int .i64 t471, .slice Ao12 t472.length co12, .slice none 0 0]) ?_ 2 _ rfl; (with_reducible repeat (first | refine blk_drewN ?_ _ | refine blk_drew ?_ | refine blk_alloc ?_ _)); refine blk_put (cs := #[.int .i64 t471, .slice none 0 0, .slice none 0 0]) ?_ 1 _ rfl; (with_reducible repeat (first | refine blk_drewN ?_ _ | refine blk_drew ?_ | refine blk_alloc ?_ _)); refine blk_put (cs := #[.int .i64 0, .slice none 0 0, .slice none 0 0]) ?_ 0 _ rfl; (with_reducible repeat (first | refine blk_drewN ?_ _ | refine blk_drew ?_ | refine blk_alloc ?_ _)); exact BK480.out⟩
 have n4_ : Aside0 (IsS81 w (((w8.setCell ⟨gb480, 0, none⟩ (.int .i64 t471)).setCell ⟨gb480, 1, none⟩ (.slice Ao12 t472.length co12)).setCell ⟨gb480, 2, none⟩ (.slice Ao13 t475.length co13)) g470 t467 t478 t479) := ⟨i81a2_ HI470.out NB470_466.out NB470_480.out⟩
 have n5_ : Aside0 (Below w.heap.size w (((w8.setCell ⟨gb480, 0, none⟩ (.int .i64 t471)).setCell ⟨gb480, 1, none⟩ (.slice Ao12 t472.length co12)).setCell ⟨gb480, 2, none⟩ (.slice Ao13 t475.length co13))) := ⟨B3_ HB.out (IsS81.ge HI470.out) GE466.out GE480.out⟩
 (try clear HO474)
 (try clear HO477)
 (try clear BK466)
 (try clear BK480)
 (try clear HI470)
 (try clear HB)
 generalize (((w8.setCell ⟨gb480, 0, none⟩ (.int .i64 t471)).setCell ⟨gb480, 1, none⟩ (.slice Ao12 t472.length co12)).setCell ⟨gb480, 2, none⟩ (.slice Ao13 t475.length co13)) = w14 at n0_ n1_ n2_ n3_ n4_ n5_ ⊢
 have HO474 := n0_
 have HO477 := n1_
 have BK466 := n2_
 have BK480 := n3_
 have HI470 := n4_
 have HB := n5_
 clear n0_ n1_ n2_ n3_ n4_ n5_
 replace HO474 := Aside0.mk (Kd.R_drew HO474.out)
 replace HO477 := Aside0.mk (Kd.N_drew HO477.out)
 replace BK466 := Aside0.mk (blk_drew BK466.out)
 replace BK480 := Aside0.mk (blk_drew BK480.out)
 replace HI470 := Aside0.mk (IsS81.drew HI470.out)
 replace HB := Aside0.mk (below_drew1 HB.out)
 refine start_ (n := 6) (S := fun w' => w'.cell? ⟨gb480, 0, none⟩ = some (.int .i64 t471) ∧ w'.cell? ⟨gb480, 1, none⟩ = some (.slice Ao12 t472.length co12) ∧ w'.cell? ⟨gb480, 2, none⟩ = some (.slice Ao13 t475.length co13)) (ds := []) #[false, false, false, false, false, false] (by kernel_rfl) rfl rfl ⟨(blk_cell BK480.out 0).trans rfl, (blk_cell BK480.out 1).trans rfl, (blk_cell BK480.out 2).trans rfl⟩ (fun hHeld => ?_)
 generalize w14.drew = w15 at HO474 HO477 BK466 BK480 HI470 HB hHeld ⊢
 refine pure_ (i := 1) (N := some 11) (v := ?_) (a' := ?_) #[false, true, false, false, false, false] rfl rfl (by kernel_rfl) (fun _ _ _ h => h) (Or.inl ⟨by rfl, ?_⟩) ?_ ?_
 rotate_left
 ·intro w'
  go_simp
  with_reducible rfl
 rotate_left
 ·simp only [Act.put, List.setIfInBounds_toArray, List.set_cons_zero, List.set_cons_succ, i64_w, i32_w]
  rfl
 refine take_ (i := 0) (N := some 10) (v := ?_) (a' := ?_) #[true, true, false, false, false, false] rfl rfl (by kernel_rfl) (fun _ _ _ h => h) (Or.inl ⟨by rfl, ?_⟩) hHeld ?_ ?_
 rotate_left
 ·rintro w' ⟨s0, s1, s2⟩
  go_simp
  with_reducible rfl
 rotate_left
 ·simp only [Act.put, List.setIfInBounds_toArray, List.set_cons_zero, List.set_cons_succ, i64_w, i32_w]
  rfl
 refine one_ (i := 2) (N := some 12) #[true, true, true, false, false, false] rfl rfl (by kernel_rfl) (by decide) (fun K hK => ?_)
 refine Kd.R_lit_step Kd.string _ 9 ?hg (N := 12) ?hd (xs := ([(⟨#[97]⟩ : ByteArray), (⟨#[98]⟩ : ByteArray), (⟨#[112]⟩ : ByteArray), (⟨#[122]⟩ : ByteArray)] : List ByteArray)) (inner := [.string (⟨#[97]⟩ : ByteArray), .string (⟨#[98]⟩ : ByteArray), .string (⟨#[112]⟩ : ByteArray), .string (⟨#[122]⟩ : ByteArray)]) (ok := fun _ => True) (okp := fun _ => True) ?hr ?hp (fun _ hk => hk) trivial (Below.refl _ _) (Nat.le_refl _) (by simp) ?_; (case hd => rfl); (case hg => rfl); (case hr => first | (go_simp; done) | (go_simp; rfl)); (case hp => exact (Reps.one (show Kd.M Kd.string _ _ _ (⟨#[97]⟩ : ByteArray) [.string (⟨#[97]⟩ : ByteArray)] from rfl) (Reps.one (show Kd.M Kd.string _ _ _ (⟨#[98]⟩ : ByteArray) [.string (⟨#[98]⟩ : ByteArray)] from rfl) (Reps.one (show Kd.M Kd.string _ _ _ (⟨#[112]⟩ : ByteArray) [.string (⟨#[112]⟩ : ByteArray)] from rfl) (Reps.one (show Kd.M Kd.string _ _ _ (⟨#[122]⟩ : ByteArray) [.string (⟨#[122]⟩ : ByteArray)] from rfl) (Reps.none _ _))))))
 intro v482 w16 ho17 hb hg_ hnew_
 clear hg_ hnew_
 (first | rw [← Ny481.out] at ho17 | (simp only [Int.reduceToNat] at ho17; rw [← Ny481.out] at ho17))
 replace HO477 := Aside0.mk (Kd.N_elder' (N_ HO477.out) (Kd.R_base ho17) hb)
 have HO483 := Aside0.mk (Kd.R_lower (Kd.R_new' (Kd.R_newM (M := fun k_ => (w.heap.size ≤ k_)) ho17 (below_size (B3_ HB.out (IsS81.ge HI470.out) GE466.out GE480.out)) (fun k_ h_ => h_)) (Kd.R_lt (R_ HO474.out))) (below_size (B3_ HB.out (IsS81.ge HI470.out) GE466.out GE480.out)))
 replace HO474 := Aside0.mk (Kd.R_elder' (R_ HO474.out) (Kd.R_base ho17) hb)
 replace BK466 := kb_ BK466 hb
 replace BK480 := kb_ BK480 hb
 replace HB := Aside0.mk (below_step (B3_ HB.out (IsS81.ge HI470.out) GE466.out GE480.out) hb)
 replace HI470 := Aside0.mk (IsS81.below (i81a2_ HI470.out NB470_466.out NB470_480.out) hb)
 clear hb ho17
 obtain ⟨Ao18, co18, eo18⟩ := Kd.R_slice HO483.out
 (first | subst eo18 | (injection eo18 with f1_ f2_ f3_; have f4_ := f1_.symm; have f5_ := f3_.symm; clear f1_ f2_ f3_; subst f4_; subst f5_))
 refine hK.out _ _ ⟨(blk_cell BK480.out 0).trans rfl, (blk_cell BK480.out 1).trans rfl, (blk_cell BK480.out 2).trans rfl⟩ (fun hHeld => ?_)
 clear hK K
 refine nm_ (some 12) ?_
 refine one_ (i := 3) (N := some 13) #[true, true, true, true, false, false] rfl rfl (by kernel_rfl) (by decide) (fun K hK => ?_)
 refine goes_ Try.func58 (by kernel_rfl) rfl #[.pointer (some ⟨g470, 0, none⟩), .slice Ao18 y481.length co18] (by rfl) rfl rfl ma_ ?_
 with_reducible refine (spec_l1Pick.calls g470 t467 t478 t479 _ _ y481 t484 t485 t486 w _ ?side1 ?side2 ?side3 ?side4 ?side5 A4.out).mono ?_
 (case side1 => repeat (first | (with_reducible first | exact HI470.out | apply IsS81.alloc | apply IsS81.drewN | apply IsS81.drew | apply IsS81.set_1 | apply IsS81.set_2 | refine IsS81.far ?_ NB470_466.out _ | refine IsS81.far ?_ NB470_480.out _) | exact HI470.out))
 (case side2 => repeat (first | (with_reducible first | exact HB.out | apply below_alloc | apply pw_below_drewN | apply below_drew1 | refine below_set ?_ (IsS81.ge HI470.out) | refine below_set ?_ GE466.out | refine below_set ?_ GE480.out) | exact HB.out))
 (case side3 => exact crb_ HO483)
 (case side4 => exact lrb_ HO483)
 (case side5 => exact far_slice (IsS81.own_ne HI470.out HO483.out (by decide)))
 rintro e w19 ⟨rfl, hi, hb, hk⟩
 refine ⟨_, rfl, ?_⟩
 replace BK466 := Aside0.mk (KeepBut.blk hk (g' := gb466) (o := .cells #[.int .i64 0, .slice none 0 0, .slice none 0 0] 30 (0, 0)) (K_ BK466.out) NB466_470.out (by simp))
 replace HO474 := Aside0.mk (Kd.R_mono (Kd.R_keep (IsS81.apart (show IsS81 w _ g470 t467 t478 t479 from i81a2_ HI470.out NB470_466.out NB470_480.out) (R_ HO474.out) (by decide)) hk (fun _ h => h.2)) (fun _ h => h.1))
 replace HO477 := Aside0.mk (Kd.N_mono (Kd.N_keep (Kd.N_mono (ok := fun k_ => ((((w.heap.size ≤ k_)) ∧ (some k_ ≠ (.slice Ao12 t472.length co12 : Value).ownBlock ∧ (k_ ≠ gb466 ∧ (k_ ≠ g470 ∧ k_ ≠ gb480)))) ∧ some k_ ≠ (.slice Ao18 y481.length co18 : Value).ownBlock)) (N_ HO477.out) (fun k_ hk_ => (⟨hk_, hk_.1.2.2.2.1⟩ : _ ∧ k_ ≠ g470))) hk (fun _ h => h.2)) (fun _ h => h.1))
 replace BK480 := Aside0.mk (KeepBut.blk hk (g' := gb480) (o := .cells #[.int .i64 t471, .slice Ao12 t472.length co12, .slice Ao13 t475.length co13] 30 (0, 0)) (K_ BK480.out) NB480_470.out (by simp))
 replace HO483 := Aside0.mk (Kd.R_mono (Kd.R_keep (IsS81.apart (show IsS81 w _ g470 t467 t478 t479 from i81a2_ HI470.out NB470_466.out NB470_480.out) (R_ HO483.out) (by decide)) hk (fun _ h => h.2)) (fun _ h => h.1))
 replace HB := Aside0.mk (hb)
 replace HI470 := Aside0.mk (hi)
 (try clear hb)
 (try clear hb2)
 (try clear hk)
 (try clear hi)
 refine hK.out _ _ ⟨(blk_cell BK480.out 0).trans rfl, (blk_cell BK480.out 1).trans rfl, (blk_cell BK480.out 2).trans rfl⟩ (fun hHeld => ?_)
 clear hK K
 refine nm_ (some 13) ?_
 refine one_ (i := 4) (N := none) #[true, true, true, true, true, false] rfl rfl (by kernel_rfl) (by decide) (fun K hK => ?_)
 have hs20 : w19.cell? ⟨gb466, 0, none⟩ = some (.int .i64 0) := (blk_cell BK466.out 0).trans rfl
 have hfs20 := blk_frozen BK466.out 0
 have hns20_1 := NB480_466.out
 have hms20_1 := NB466_480.out
 have hs21 : w19.cell? ⟨gb466, 1, none⟩ = some (.slice none 0 0) := (blk_cell BK466.out 1).trans rfl
 have hfs21 := blk_frozen BK466.out 1
 have hns21_1 := NB480_466.out
 have hms21_1 := NB466_480.out
 have hs22 : w19.cell? ⟨gb466, 2, none⟩ = some (.slice none 0 0) := (blk_cell BK466.out 2).trans rfl
 have hfs22 := blk_frozen BK466.out 2
 have hns22_1 := NB480_466.out
 have hms22_1 := NB466_480.out
 refine skip_ (w1 := ?_) (by rfl) rfl ?_ ?_
 rotate_left
 ·go_simp
  rfl
 refine hK.out _ _ ⟨((cell_far (p := ⟨gb466, _, none⟩) NB480_466.out _).trans (((cell_far (p := ⟨gb466, _, none⟩) NB480_466.out _).trans (((cell_far (p := ⟨gb466, _, none⟩) NB480_466.out _).trans (hHeld.1)))))), ((cell_far (p := ⟨gb466, _, none⟩) NB480_466.out _).trans (((cell_far (p := ⟨gb466, _, none⟩) NB480_466.out _).trans (((cell_far (p := ⟨gb466, _, none⟩) NB480_466.out _).trans (hHeld.2.1)))))), ((cell_far (p := ⟨gb466, _, none⟩) NB480_466.out _).trans (((cell_far (p := ⟨gb466, _, none⟩) NB480_466.out _).trans (((cell_far (p := ⟨gb466, _, none⟩) NB480_466.out _).trans (hHeld.2.2))))))⟩ (fun hHeld => ?_)
 clear hK K
 refine pure_ (i := 5) (N := some 3) (v := ?_) (a' := ?_) #[true, true, true, true, true, true] rfl rfl (by kernel_rfl) (fun _ _ _ h => h) (Or.inl ⟨by rfl, ?_⟩) ?_ ?_
 rotate_left
 ·intro w'
  go_simp
  with_reducible rfl
 rotate_left
 ·simp only [Act.put, List.setIfInBounds_toArray, List.set_cons_zero, List.set_cons_succ, i64_w, i32_w]
  rfl
 refine done_ (by kernel_rfl) ?_
 try go_wp2
 refine bodyPost_ret (results_ct rfl _ _ gb466 30 #[.int .i64 t471, .slice Ao12 t472.length co12, .slice Ao13 t475.length co13] (0, 0) _ rfl (by (with_reducible repeat (first | refine blk_drewN ?_ _ | refine blk_drew ?_ | refine blk_alloc ?_ _)); refine blk_put (cs := #[.int .i64 t471, .slice Ao12 t472.length co12, .slice none 0 0]) ?_ 2 _ rfl; (with_reducible repeat (first | refine blk_drewN ?_ _ | refine blk_drew ?_ | refine blk_alloc ?_ _)); refine blk_put (cs := #[.int .i64 t471, .slice none 0 0, .slice none 0 0]) ?_ 1 _ rfl; (with_reducible repeat (first | refine blk_drewN ?_ _ | refine blk_drew ?_ | refine blk_alloc ?_ _)); refine blk_put (cs := #[.int .i64 0, .slice none 0 0, .slice none 0 0]) ?_ 0 _ rfl; (with_reducible repeat (first | refine blk_drewN ?_ _ | refine blk_drew ?_ | refine blk_alloc ?_ _)); exact BK466.out) Try.underlying30 rfl (by kernel_rfl)) rfl ?_
 exact ⟨_, _, er_, by (with_reducible repeat (first | apply Kd.R_alloc | apply Kd.R_drewN | apply Kd.R_drew)); exact Kd.R_mono (Kd.R_far (p := ⟨gb466, 2, none⟩) (Kd.R_far (p := ⟨gb466, 1, none⟩) (Kd.R_far (p := ⟨gb466, 0, none⟩) (Kd.R_types HO474.out BK466.out (by decide)) (fun _ hk => hk.2) (.int .i64 t471)) (fun _ hk => hk.2) (.slice Ao12 t472.length co12)) (fun _ hk => hk.2) (.slice Ao13 t475.length co13)) (fun _ hk => hk.1.1), by (with_reducible repeat (first | apply Kd.N_alloc | apply Kd.N_drewN | apply Kd.N_drew)); exact Kd.N_mono (Kd.N_far (p := ⟨gb466, 2, none⟩) (Kd.N_far (p := ⟨gb466, 1, none⟩) (Kd.N_far (p := ⟨gb466, 0, none⟩) (Kd.N_mono HO477.out (fun k_ hk => (⟨hk, hk.1.2.2.1⟩ : _ ∧ k_ ≠ gb466))) (fun _ hk => hk.2) (.int .i64 t471)) (fun _ hk => hk.2) (.slice Ao12 t472.length co12)) (fun _ hk => hk.2) (.slice Ao13 t475.length co13)) (fun _ hk => ⟨hk.1.1.1, hk.1.1.2.1⟩), B3_ HB.out (IsS81.ge HI470.out) GE466.out GE480.out⟩

/-! ### impl_IndexOf: function 59 -/
def impl_IndexOf.l0 : Nat → ByteArray → List ByteArray → Int → Int → Option (Int)
 | 0, _, _, _, _ => none
 | k + 1, x1, x7, x8, x9 => if x9 < x8 then (if 0 ≤ x9 then (if x9 < (x7.length : Int) then (if (rdOf ByteArray.empty x7 x9).toList = x1.toList then (some x9) else (impl_IndexOf.l0 k x1 x7 x8 (wrap64 (x9 + 1)))) else (none)) else (none)) else (some (-1))
def impl_IndexOf.f (k : Nat) (l0 : List ByteArray) (a1 : ByteArray) : Option (Int) := impl_IndexOf.l0 k a1 l0 (l0.length : Int) 0
theorem impl_IndexOf.mono_l : ∀ k, (∀ y0 y1 y2 y3, LeO (impl_IndexOf.l0 k y0 y1 y2 y3) (impl_IndexOf.l0 (k + 1) y0 y1 y2 y3))
 | 0 => fun _ _ _ _ r h => by simp [impl_IndexOf.l0] at h
 | k + 1 => by
  have ih0 := impl_IndexOf.mono_l k
  ·intro y0 y1 y2 y3
   unfold impl_IndexOf.l0
   repeat' first
   | (with_reducible exact ih0 _ _ _ _)
   | (with_reducible exact LeO.refl _)
   | (with_reducible exact LeO.none _)
   | (with_reducible refine LeO.ite ?_ ?_)
   | (with_reducible refine LeO.bind ?_ (fun _ => ?_))
   | exact ih0 _ _ _ _
   | exact LeO.none _
   | refine LeO.ite ?_ ?_
   | refine LeO.bind ?_ (fun _ => ?_)
theorem impl_IndexOf.mono : ∀ a0 a1 k, LeO (impl_IndexOf.f k a0 a1) (impl_IndexOf.f (k + 1) a0 a1) := by
 intro a0 a1 k
 have ih0 := impl_IndexOf.mono_l k
 unfold impl_IndexOf.f
 repeat' first
   | (with_reducible exact ih0 _ _ _ _)
   | (with_reducible exact LeO.refl _)
   | (with_reducible exact LeO.none _)
   | (with_reducible refine LeO.ite ?_ ?_)
   | (with_reducible refine LeO.bind ?_ (fun _ => ?_))
   | exact ih0 _ _ _ _
   | exact LeO.none _
   | refine LeO.ite ?_ ?_
   | refine LeO.bind ?_ (fun _ => ?_)
set_option maxHeartbeats 8000000 in
set_option maxRecDepth 100000 in
theorem impl_IndexOf.calls (k : Nat) (A0 : Option Addr) (c0 : Nat) (l0 : List ByteArray) (a1 : ByteArray) (r : Int) (w : World) (hr0 : Kd.C Kd.string w A0 l0.length l0) (hc0 : l0.length ≤ c0) (h : impl_IndexOf.f k l0 a1 = some r) :
  Calls Try.prog 59 #[.slice A0 l0.length c0, .string a1] w fun e w' => e = .returned (.int .i64 r) ∧ Drawn0 w w' := by
 have HR0 := Aside0.mk hr0
 have HC0 := Aside0.mk hc0
 clear hr0 hc0
 have H : (impl_IndexOf.l0 k a1 l0 (l0.length : Int) 0) = some r := h
 clear h
 have H' := Aside0.mk H
 clear H
 go_enter Try.func59, Try.ntmps59
 go_wp2
 go_loopg [9] k (fun kq v9 w' => ∃ (x9_1 : Int), v9 = .int .i64 x9_1 ∧ Aside0 (impl_IndexOf.l0 kq a1 l0 (l0.length : Int) x9_1 = some r) ∧ Aside0 (kq ≤ k) ∧ Drawn0 w w')
 case atStart => exact ⟨(0), q_, H', ⟨Nat.le_refl _⟩, by repeat (first | exact Drawn0.refl _ | apply Drawn0.step)⟩
 case round =>
  clear H'
  obtain ⟨x9_1, rfl, HA, HK1, ⟨m1, rfl⟩⟩ := hrel
  cases gk with
  | zero => exact absurd HA.out (by simp [impl_IndexOf.l0])
  | succ k1 =>
   have H := HA.out
   clear HA
   simp only [impl_IndexOf.l0] at H
   by_cases c3 : x9_1 < (l0.length : Int)
   ·rw [if_pos c3] at H
    have c3b0 : decide (x9_1 < (l0.length : Int)) = true := decide_eq_true c3
    clear c3
    by_cases c4 : 0 ≤ x9_1
    ·rw [if_pos c4] at H
     have c4b0 : decide (0 ≤ x9_1) = true := decide_eq_true c4
     clear c4
     by_cases c5 : x9_1 < (l0.length : Int)
     ·rw [if_pos c5] at H
      have c5b0 : decide (x9_1 < (l0.length : Int)) = true := decide_eq_true c5
      clear c5
      by_cases c6 : (rdOf ByteArray.empty l0 x9_1).toList = a1.toList
      ·rw [if_pos c6] at H
       have c6b0 : ((rdOf ByteArray.empty l0 x9_1).toList == a1.toList) = true := beq_iff_eq.mpr c6
       have c6b1 : ((rdOf ByteArray.empty l0 x9_1).toList != a1.toList) = false := bne_eq_false_iff_eq.mpr c6
       clear c6
       obtain rfl := Option.some.inj H
       have p487 : 0 ≤ (x9_1 : Int) := de_
       have q487 : x9_1 < (l0.length : Int) := de_
       obtain ⟨ad487, e487, hx487_0⟩ := Kd.at_string HR0.out x9_1 p487 q487
       cases e487
       replace p487 := eq_true p487
       replace q487 := eq_true q487
       go_wp2
       go_ret
       exact ⟨by first | rfl | (simp; done) | (simp [*]; done), by repeat (first | exact Drawn0.refl _ | apply Drawn0.step)⟩
      ·rw [if_neg c6] at H
       have c6b0 : ((rdOf ByteArray.empty l0 x9_1).toList == a1.toList) = false := beq_eq_false_iff_ne.mpr c6
       have c6b1 : ((rdOf ByteArray.empty l0 x9_1).toList != a1.toList) = true := bne_iff_ne.mpr c6
       have H' := Aside0.mk H
       clear H
       have p487 : 0 ≤ (x9_1 : Int) := de_
       have q487 : x9_1 < (l0.length : Int) := de_
       obtain ⟨ad487, e487, hx487_0⟩ := Kd.at_string HR0.out x9_1 p487 q487
       cases e487
       replace p487 := eq_true p487
       replace q487 := eq_true q487
       go_wp2
       go_roundg k1
       case measure => have := HK1.out; omega
       case rel => exact ⟨(wrap64 (x9_1 + 1)), q_, H', ⟨by have := HK1.out; omega⟩, by repeat (first | exact Drawn0.refl _ | apply Drawn0.step)⟩
     ·rw [if_neg c5] at H
      exact absurd H (by simp)
    ·rw [if_neg c4] at H
     exact absurd H (by simp)
   ·rw [if_neg c3] at H
    have c3b0 : decide (x9_1 < (l0.length : Int)) = false := decide_eq_false c3
    clear c3
    obtain rfl := Option.some.inj H
    go_wp2
    go_ret
    exact ⟨by first | rfl | (simp; done) | (simp [*]; done), by repeat (first | exact Drawn0.refl _ | apply Drawn0.step)⟩

/-! ### impl_cloneStrings: function 77 -/
def impl_cloneStrings.f (l0 : List ByteArray) : Option (List ByteArray) := if ([] : List ByteArray).length + l0.length < 8796093022208 then (some (([] : List ByteArray) ++ l0)) else (none)
set_option maxHeartbeats 8000000 in
set_option maxRecDepth 100000 in
theorem impl_cloneStrings.calls (A0 : Option Addr) (c0 : Nat) (l0 : List ByteArray) (r : List ByteArray) (w : World) (hr0 : Kd.C Kd.string w A0 l0.length l0) (hc0 : l0.length ≤ c0) (h : impl_cloneStrings.f l0 = some r) :
  Calls Try.prog 77 #[.slice A0 l0.length c0] w fun e w' => ∃ v0_ : Value, e = .returned (v0_) ∧ Kd.R Kd.string 9 w' w.heap.size (fun _ => True) v0_ r ∧ Below w.heap.size w w' := by
 have HR0 := Aside0.mk hr0
 have HC0 := Aside0.mk hc0
 clear hr0 hc0
 have HB := Aside0.mk (Below.refl w.heap.size w)
 have H : (if ([] : List ByteArray).length + l0.length < 8796093022208 then (some (([] : List ByteArray) ++ l0)) else (none)) = some r := h
 clear h
 by_cases c2 : ([] : List ByteArray).length + l0.length < 8796093022208
 ·rw [if_pos c2] at H
  have LMc2 := Aside0.mk c2
  clear c2
  obtain ⟨y488, hy488⟩ : ∃ y_ : List ByteArray, y_ = (([] : List ByteArray) ++ l0) := ⟨_, rfl⟩
  replace H : (some y488) = some r := by first | (rw [hy488]; with_reducible exact H) | (have H2_ := (Option.bind_some _ _).symm.trans H; rw [hy488]; with_reducible exact H2_) | (have H2_ := (Option.bind_some _ _).symm.trans H; with_reducible exact H2_) | with_reducible exact H | (rw [hy488]; exact H) | exact H
  have Ny488 := Aside0.mk hy488
  clear hy488
  obtain rfl := Option.some.inj H
  go_enter Try.func77, Try.ntmps77
  go_wp2_with (first | ((with_reducible refine gate_builtin (b := .append) (xs := #[.const (.slice none 0 0), .tmp 3]) rfl ?_); at_builtin; refine Kd.R_append_rows Kd.string (w0 := w) w.heap.size rfl (.const (.slice none 0 0)) (.tmp 3) 22 9 (.string ⟨#[]⟩) 16 rfl Try.underlying22 info9 rfl (by decide) (by omega) (.slice none 0 0) ([] : List ByteArray) l0 _ _ _ (fun _ => True) (fun _ => False) rfl rfl ?aO ?aR (fun _ _ h => h) (fun _ h => h.elim) ?aF ?aB ?aS ?aL ?_; (case aR => repeat (first | exact HR0.out | (with_reducible refine Kd.C_alloc ?_ _) | (with_reducible refine Kd.C_drewN ?_ _) | (with_reducible refine Kd.C_drew ?_))); (case aB => exact (B0_ HB.out)); (case aF => exact (fun _ _ => trivial)); (case aO => exact ((Kd.R_nil _ _ _ _ (fun _ => True)))); (case aS => exact (below_size (B0_ HB.out))); (case aL => have := LMc2.out; omega); intro v489 w3 ho hb hg hat; rw [← Ny488.out] at ho; replace HB := Aside0.mk (hb); have HO490 := Aside0.mk (ho); clear ho hb hg hat))
  go_ret
  exact ⟨_, er_, R_ HO490.out, B0_ HB.out⟩
 ·rw [if_neg c2] at H
  exact absurd H (by simp)

end Go.Proofs.Ytingaflikkeefaa.XB
