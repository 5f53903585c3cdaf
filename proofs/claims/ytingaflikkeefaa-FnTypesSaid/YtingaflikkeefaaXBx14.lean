-- Written by myprint.py, a program of this session, which runs the kit's printer with changes of its own. Lean checks it.
import Derived.Test.YtingaflikkeefaaXBx0
import Derived.Test.YtingaflikkeefaaXBx10
import Derived.Test.YtingaflikkeefaaXBx11
import Derived.Test.YtingaflikkeefaaXBx13
import Derived.Test.YtingaflikkeefaaSq
namespace Go.Proofs.Ytingaflikkeefaa.XB
open Go.RowKit Go.Proofs.YtingaflikkeefaaW.PrintWords Go.Proofs.YtingaflikkeefaaW.PrintLast Go.Proofs.YtingaflikkeefaaW.PrintMore Go.Proofs.Ytingaflikkeefaa.Sq
attribute [local go_sem] max2_int min2_int max_two min_two max_three min_three max_four min_four   -- for this text's walks alone
set_option linter.unusedVariables false
set_option linter.unusedSimpArgs false

/-! ### spec_l3Int: function 75 -/
def spec_l3Int.f  : Option (Int × List ByteArray × (List (S30))) := some (1, ([] : List ByteArray), ([] : List (S30)))
set_option maxHeartbeats 8000000 in
set_option maxRecDepth 100000 in
theorem spec_l3Int.calls  (r1 : Int) (r2 : List ByteArray) (r3 : List (S30)) (w : World) (h : spec_l3Int.f  = some (r1, r2, r3)) :
  Calls Try.prog 75 #[] w fun e w' => ∃ v1_ v2_ : Value, e = .returned (.agg #[.int .i64 r1, v1_, v2_]) ∧ Kd.R Kd.string 9 w' w.heap.size (fun _ => True) v1_ r2 ∧ Kd.R k30 30 w' w.heap.size (fun k_ => some k_ ≠ (v1_ : Value).ownBlock) v2_ r3 ∧ Below w.heap.size w w' := by
 have hu30 := Try.underlying30
 have HB := Aside0.mk (Below.refl w.heap.size w)
 have H : (some (1, ([] : List ByteArray), ([] : List (S30)))) = some (r1, r2, r3) := h
 clear h
 simp only [Option.some.injEq, Prod.mk.injEq] at H
 obtain ⟨rfl, rfl, rfl⟩ := H
 go_enter Try.func75, Try.ntmps75
 go_wp2_with (first | ((with_reducible refine gate_dst (N := 0) rfl ?_); refine box_event ?hg (N := 0) ?hd (cs := #[.int .i64 0, .slice none 0 0, .slice none 0 0]) (t := 30) ?hr ?_; (case hd => rfl); (case hg => rfl); (case hr => first | (go_simp; done) | (go_simp; rfl)); intro gb367 hg w1 hbox hb; have BK367 := Aside0.mk (hbox); have GW367 := Aside0.mk ((by rw [hg]; exact (below_size (B0_ HB.out)) : w.heap.size ≤ gb367)); have GE367 := Aside0.mk ((by rw [hg]; exact (below_size (B0_ HB.out)) : w.heap.size ≤ gb367)); replace HB := Aside0.mk (below_step (B0_ HB.out) hb); clear hb hbox hg; obtain ⟨hcz2_0, hcz2_1, hcz2_2, hfz2_0, hfz2_1, hfz2_2⟩ := box3_ BK367.out))
 refine bodyPost_ret (results_cell_row rfl _ _ gb367 30 #[.int .i64 1, .slice none 0 0, .slice none 0 0] (0, 0) _ rfl (by (with_reducible repeat (first | refine blk_drewN ?_ _ | refine blk_drew ?_ | refine blk_alloc ?_ _)); refine blk_put (cs := #[.int .i64 1, .slice none 0 0, .slice none 0 0]) ?_ 2 _ rfl; (with_reducible repeat (first | refine blk_drewN ?_ _ | refine blk_drew ?_ | refine blk_alloc ?_ _)); refine blk_put (cs := #[.int .i64 1, .slice none 0 0, .slice none 0 0]) ?_ 1 _ rfl; (with_reducible repeat (first | refine blk_drewN ?_ _ | refine blk_drew ?_ | refine blk_alloc ?_ _)); refine blk_put (cs := #[.int .i64 0, .slice none 0 0, .slice none 0 0]) ?_ 0 _ rfl; (with_reducible repeat (first | refine blk_drewN ?_ _ | refine blk_drew ?_ | refine blk_alloc ?_ _)); exact BK367.out) Try.underlying30 rfl (by kernel_rfl)) rfl ?_
 exact ⟨_, _, er_, by first | exact Kd.R_nil _ _ _ _ _ | exact Kd.N_nil _ _ _ _ _ | exact Kd.V_nil _ _ _ _ _ | exact Kd.Q_nil _ _ _ _ _ | exact Kd.S_nil _ _ _ _ _, by first | exact Kd.R_nil _ _ _ _ _ | exact Kd.N_nil _ _ _ _ _ | exact Kd.V_nil _ _ _ _ _ | exact Kd.Q_nil _ _ _ _ _ | exact Kd.S_nil _ _ _ _ _, B1_ HB.out GE367.out⟩

/-! ### spec_l3Bent: function 54 -/
def spec_l3Bent.l0 : Nat → Int → Int → List Int → Int → Int → Int → List ByteArray → List (S30) → Option (Int × List ByteArray × (List (S30)) × Int × Int)
 | 0, _, _, _, _, _, _, _, _ => none
 | k + 1, x4, x5, x1000, x1001, x1002, x379000, x379001, x379002 => if x5 < x4 then ((spec_l3List.f k x379000 x379001 x379002).bind fun bt407 => (spec_l3Bent.l0 k x4 (wrap64 (x5 + 1)) x1000 x1001 x1002 bt407.1 bt407.2.1 bt407.2.2)) else (some (x379000, x379001, x379002, x1001, x1002))
def spec_l3Bent.f (k : Nat) (s0_0 : List Int) (s0_1 : Int) (s0_2 : Int) : Option (Int × List ByteArray × (List (S30)) × Int × Int) := (spec_l3Draw.f k s0_0 s0_1 s0_2 4).bind fun bt369 => ((spec_l1Below.f s0_0 bt369.2.2.2.1 bt369.2.2.2.2 10).bind fun bt379 => (if bt379.1 = 0 then ((spec_l1Below.f s0_0 bt379.2.1 bt379.2.2 7).bind fun bt382 => (some (bt382.1, bt369.2.1, bt369.2.2.1, bt382.2.1, bt382.2.2))) else (if bt379.1 = 1 then ((spec_l1Pick.f s0_0 bt379.2.1 bt379.2.2 (([(⟨#[97]⟩ : ByteArray), (⟨#[122]⟩ : ByteArray), (⟨#[90]⟩ : ByteArray)] : List ByteArray))).bind fun bt388 => (if bt369.2.1.length < 8796093022208 then (some (bt369.1, (bt369.2.1 ++ [bt388.1]), bt369.2.2.1, bt388.2.1, bt388.2.2)) else (none))) else (if bt379.1 = 2 then ((spec_l3Int.f).bind fun bt394 => (if bt369.2.2.1.length < 2513169434916 then (some (bt369.1, bt369.2.1, (bt369.2.2.1 ++ [(⟨bt394.1, bt394.2.1, bt394.2.2⟩ : S30)]), bt379.2.1, bt379.2.2)) else (none))) else (if bt379.1 = 3 then ((spec_l1Below.f s0_0 bt379.2.1 bt379.2.2 6).bind fun bt404 => (spec_l3Bent.l0 k (wrap64 (1 + bt404.1)) 0 s0_0 bt404.2.1 bt404.2.2 bt369.1 bt369.2.1 bt369.2.2.1)) else (some (bt369.1, bt369.2.1, bt369.2.2.1, bt379.2.1, bt379.2.2)))))))
theorem spec_l3Bent.mono_l : ∀ k, (∀ y0 y1 y2 y3 y4 y5 y6 y7, LeO (spec_l3Bent.l0 k y0 y1 y2 y3 y4 y5 y6 y7) (spec_l3Bent.l0 (k + 1) y0 y1 y2 y3 y4 y5 y6 y7))
 | 0 => fun _ _ _ _ _ _ _ _ r h => by simp [spec_l3Bent.l0] at h
 | k + 1 => by
  have ih0 := spec_l3Bent.mono_l k
  ·intro y0 y1 y2 y3 y4 y5 y6 y7
   unfold spec_l3Bent.l0
   repeat' first
   | (with_reducible exact ih0 _ _ _ _ _ _ _ _)
   | (with_reducible exact spec_l3Draw.mono _ _ _ _ _)
   | (with_reducible exact spec_l3List.mono _ _ _ _)
   | (with_reducible exact LeO.refl _)
   | (with_reducible exact LeO.none _)
   | (with_reducible refine LeO.ite ?_ ?_)
   | (with_reducible refine LeO.bind ?_ (fun _ => ?_))
   | exact ih0 _ _ _ _ _ _ _ _
   | exact spec_l3Draw.mono _ _ _ _ _
   | exact spec_l3List.mono _ _ _ _
   | exact LeO.none _
   | refine LeO.ite ?_ ?_
   | refine LeO.bind ?_ (fun _ => ?_)
theorem spec_l3Bent.mono : ∀ a0 a1 a2 k, LeO (spec_l3Bent.f k a0 a1 a2) (spec_l3Bent.f (k + 1) a0 a1 a2) := by
 intro a0 a1 a2 k
 have ih0 := spec_l3Bent.mono_l k
 unfold spec_l3Bent.f
 repeat' first
   | (with_reducible exact ih0 _ _ _ _ _ _ _ _)
   | (with_reducible exact spec_l3Draw.mono _ _ _ _ _)
   | (with_reducible exact spec_l3List.mono _ _ _ _)
   | (with_reducible exact LeO.refl _)
   | (with_reducible exact LeO.none _)
   | (with_reducible refine LeO.ite ?_ ?_)
   | (with_reducible refine LeO.bind ?_ (fun _ => ?_))
   | exact ih0 _ _ _ _ _ _ _ _
   | exact spec_l3Draw.mono _ _ _ _ _
   | exact spec_l3List.mono _ _ _ _
   | exact LeO.none _
   | refine LeO.ite ?_ ?_
   | refine LeO.bind ?_ (fun _ => ?_)
def spec_l3Bent.T6 : Bool × List (List Nat × List Nat) := (true, [([], []), ([0], [0]), ([], []), ([], []), ([2, 3], [2, 3]), ([4], [4]), ([1, 5, 4], [1, 5]), ([0, 1, 2, 3, 4, 5, 6], []), ([7, 6, 6, 0, 1, 2, 3, 4, 5, 6], [6, 7])])
def spec_l3Bent.B6 : List Nat := [0, 1, 0, 0, 12, 28, 63, 127, 255]
theorem spec_l3Bent.tab6 : rtab .any (opsOf Try.f54 6) = spec_l3Bent.T6 := by kernel_rfl
theorem spec_l3Bent.bits6 : waitsOk spec_l3Bent.T6.2 spec_l3Bent.B6 = true := by kernel_rfl
set_option maxHeartbeats 8000000 in
set_option maxRecDepth 100000 in
theorem spec_l3Bent.calls (k : Nat) (g : Nat) (s0_0 : List Int) (s0_1 : Int) (s0_2 : Int) (r1 : Int) (r2 : List ByteArray) (r3 : List (S30)) (r4 : Int) (r5 : Int) (w0 w : World) (hI : IsS81 w0 w g s0_0 s0_1 s0_2) (hB : Below w0.heap.size w0 w) (h : spec_l3Bent.f k s0_0 s0_1 s0_2 = some (r1, r2, r3, r4, r5)) :
  Calls Try.prog 54 #[.pointer (some ⟨g, 0, none⟩)] w fun e w' => ∃ v1_ v2_ : Value, e = .returned (.agg #[.int .i64 r1, v1_, v2_]) ∧ Kd.R Kd.string 9 w' w.heap.size (fun k_ => (w.heap.size ≤ k_)) v1_ r2 ∧ Kd.N k30 30 w' w.heap.size (fun k_ => (w.heap.size ≤ k_) ∧ some k_ ≠ (v1_ : Value).ownBlock) v2_ r3 ∧ IsS81 w0 w' g s0_0 r4 r5 ∧ Below w0.heap.size w0 w' ∧ KeepBut w w' g none := by
 have hu30 := Try.underlying30
 have HI0 := Aside0.mk hI
 have HK := Aside0.mk (KeepBut.refl w g none)
 have HL := Aside0.mk hB.size
 clear hI
 have HW0 := Aside0.mk hB.size
 have HB := Aside0.mk hB
 clear hB
 have H : ((spec_l3Draw.f k s0_0 s0_1 s0_2 4).bind fun bt369 => ((spec_l1Below.f s0_0 bt369.2.2.2.1 bt369.2.2.2.2 10).bind fun bt379 => (if bt379.1 = 0 then ((spec_l1Below.f s0_0 bt379.2.1 bt379.2.2 7).bind fun bt382 => (some (bt382.1, bt369.2.1, bt369.2.2.1, bt382.2.1, bt382.2.2))) else (if bt379.1 = 1 then ((spec_l1Pick.f s0_0 bt379.2.1 bt379.2.2 (([(⟨#[97]⟩ : ByteArray), (⟨#[122]⟩ : ByteArray), (⟨#[90]⟩ : ByteArray)] : List ByteArray))).bind fun bt388 => (if bt369.2.1.length < 8796093022208 then (some (bt369.1, (bt369.2.1 ++ [bt388.1]), bt369.2.2.1, bt388.2.1, bt388.2.2)) else (none))) else (if bt379.1 = 2 then ((spec_l3Int.f).bind fun bt394 => (if bt369.2.2.1.length < 2513169434916 then (some (bt369.1, bt369.2.1, (bt369.2.2.1 ++ [(⟨bt394.1, bt394.2.1, bt394.2.2⟩ : S30)]), bt379.2.1, bt379.2.2)) else (none))) else (if bt379.1 = 3 then ((spec_l1Below.f s0_0 bt379.2.1 bt379.2.2 6).bind fun bt404 => (spec_l3Bent.l0 k (wrap64 (1 + bt404.1)) 0 s0_0 bt404.2.1 bt404.2.2 bt369.1 bt369.2.1 bt369.2.2.1)) else (some (bt369.1, bt369.2.1, bt369.2.2.1, bt379.2.1, bt379.2.2)))))))) = some (r1, r2, r3, r4, r5) := h
 clear h
 replace H := Option.bind_eq_some_iff.mp H
 obtain ⟨⟨t369, t370, t373, t376, t377⟩, A20, H⟩ := H
 replace H : ((spec_l1Below.f s0_0 t376 t377 10).bind fun bt379 => (if bt379.1 = 0 then ((spec_l1Below.f s0_0 bt379.2.1 bt379.2.2 7).bind fun bt382 => (some (bt382.1, t370, t373, bt382.2.1, bt382.2.2))) else (if bt379.1 = 1 then ((spec_l1Pick.f s0_0 bt379.2.1 bt379.2.2 (([(⟨#[97]⟩ : ByteArray), (⟨#[122]⟩ : ByteArray), (⟨#[90]⟩ : ByteArray)] : List ByteArray))).bind fun bt388 => (if t370.length < 8796093022208 then (some (t369, (t370 ++ [bt388.1]), t373, bt388.2.1, bt388.2.2)) else (none))) else (if bt379.1 = 2 then ((spec_l3Int.f).bind fun bt394 => (if t373.length < 2513169434916 then (some (t369, t370, (t373 ++ [(⟨bt394.1, bt394.2.1, bt394.2.2⟩ : S30)]), bt379.2.1, bt379.2.2)) else (none))) else (if bt379.1 = 3 then ((spec_l1Below.f s0_0 bt379.2.1 bt379.2.2 6).bind fun bt404 => (spec_l3Bent.l0 k (wrap64 (1 + bt404.1)) 0 s0_0 bt404.2.1 bt404.2.2 t369 t370 t373)) else (some (t369, t370, t373, bt379.2.1, bt379.2.2))))))) = some (r1, r2, r3, r4, r5) := H
 have A2 := Aside0.mk A20
 clear A20
 replace H := Option.bind_eq_some_iff.mp H
 obtain ⟨⟨t379, t380, t381⟩, A30, H⟩ := H
 replace H : (if t379 = 0 then ((spec_l1Below.f s0_0 t380 t381 7).bind fun bt382 => (some (bt382.1, t370, t373, bt382.2.1, bt382.2.2))) else (if t379 = 1 then ((spec_l1Pick.f s0_0 t380 t381 (([(⟨#[97]⟩ : ByteArray), (⟨#[122]⟩ : ByteArray), (⟨#[90]⟩ : ByteArray)] : List ByteArray))).bind fun bt388 => (if t370.length < 8796093022208 then (some (t369, (t370 ++ [bt388.1]), t373, bt388.2.1, bt388.2.2)) else (none))) else (if t379 = 2 then ((spec_l3Int.f).bind fun bt394 => (if t373.length < 2513169434916 then (some (t369, t370, (t373 ++ [(⟨bt394.1, bt394.2.1, bt394.2.2⟩ : S30)]), t380, t381)) else (none))) else (if t379 = 3 then ((spec_l1Below.f s0_0 t380 t381 6).bind fun bt404 => (spec_l3Bent.l0 k (wrap64 (1 + bt404.1)) 0 s0_0 bt404.2.1 bt404.2.2 t369 t370 t373)) else (some (t369, t370, t373, t380, t381)))))) = some (r1, r2, r3, r4, r5) := H
 have A3 := Aside0.mk A30
 clear A30
 by_cases c4 : t379 = 0
 ·rw [if_pos c4] at H
  have c4b0 : (t379 == 0) = true := beq_iff_eq.mpr c4
  have c4b1 : (t379 != 0) = false := bne_eq_false_iff_eq.mpr c4
  clear c4
  replace H := Option.bind_eq_some_iff.mp H
  obtain ⟨⟨t382, t383, t384⟩, A50, H⟩ := H
  replace H : (some (t382, t370, t373, t383, t384)) = some (r1, r2, r3, r4, r5) := H
  have A5 := Aside0.mk A50
  clear A50
  simp only [Option.some.injEq, Prod.mk.injEq] at H
  obtain ⟨rfl, rfl, rfl, rfl, rfl⟩ := H
  go_enter Try.func54, Try.ntmps54
  go_wp2_with (first | ((with_reducible refine gate_dst (N := 2) rfl ?_); refine box_event ?hg (N := 2) ?hd (cs := #[.int .i64 0, .slice none 0 0, .slice none 0 0]) (t := 30) ?hr ?_; (case hd => rfl); (case hg => rfl); (case hr => first | (go_simp; done) | (go_simp; rfl)); intro gb368 hg w6 hbox hb; replace HB := Aside0.mk (below_step (B1_ HB.out (IsS81.ge HI0.out)) hb); have BK368 := Aside0.mk (hbox); have GW368 := Aside0.mk ((by rw [hg]; exact (keep_size (w := w) (g := g) (row := none) (G0_ HK.out)) : w.heap.size ≤ gb368)); have GE368 := Aside0.mk ((Nat.le_trans HW0.out (by rw [hg]; exact (keep_size (w := w) (g := g) (row := none) (G0_ HK.out)) : w.heap.size ≤ gb368) : w0.heap.size ≤ gb368)); replace HK := Aside0.mk (KeepBut.trans (G0_ HK.out) (KeepBut.of_below hb g none) (.inl rfl)); have NB0_368 := Aside0.mk ((by rw [hg]; exact Nat.ne_of_lt (IsS81.lt (show IsS81 w0 _ g s0_0 s0_1 s0_2 from i81a0_ HI0.out)) : g ≠ gb368)); have NB368_0 := Aside0.mk ((by rw [hg]; exact Nat.ne_of_gt (IsS81.lt (show IsS81 w0 _ g s0_0 s0_1 s0_2 from i81a0_ HI0.out)) : gb368 ≠ g)); replace HI0 := Aside0.mk (IsS81.below (i81a0_ HI0.out) hb); clear hb hbox hg) | ((with_reducible refine gate_callee (f := 73) rfl ?_); refine goesL_ (some 7) rfl rfl Try.func73 (by kernel_rfl) rfl #[.pointer (some ⟨g, 0, none⟩), .int .i64 4] rfl ma_ ?_; (with_reducible refine (spec_l3Draw.calls k g s0_0 s0_1 s0_2 4 t369 t370 t373 t376 t377 w0 _ ?side1 ?side2 A2.out).mono ?_); (case side1 => repeat (first | (with_reducible first | exact HI0.out | apply IsS81.alloc | apply IsS81.drewN | apply IsS81.drew | apply IsS81.set_1 | apply IsS81.set_2 | refine IsS81.far ?_ NB0_368.out _) | exact HI0.out)); (case side2 => repeat (first | (with_reducible first | exact HB.out | apply below_alloc | apply pw_below_drewN | apply below_drew1 | refine below_set ?_ (IsS81.ge HI0.out) | refine below_set ?_ GE368.out) | exact HB.out)); rintro e w7 ⟨v371, v374, rfl, ho0, ho1, hi, hb, hk⟩; refine ⟨_, rfl, ?_⟩; have HO372 := Aside0.mk (Kd.R_lower (Kd.R_newM (M := fun k_ => (w.heap.size ≤ k_)) (Kd.R_mono (ok' := fun k_ => True) ho0 (fun _ hk_ => trivial)) (keep_size (w := w) (g := g) (row := none) (G1_ HK.out GW368.out)) (fun k_ h_ => h_)) (keep_size (w := w) (g := g) (row := none) (G1_ HK.out GW368.out))); have HO375 := Aside0.mk (Kd.N_lower (Kd.N_mono (ok' := fun k_ => (w.heap.size ≤ k_) ∧ some k_ ≠ (v371 : Value).ownBlock ∧ k_ ≠ gb368 ∧ k_ ≠ g) ho1 (fun k_ hk_ => ⟨(Nat.le_trans (keep_size (w := w) (g := g) (row := none) (G1_ HK.out GW368.out)) hk_.1), hk_.2, (Kd.freshB (K_ BK368.out) k_ hk_.1), (IsS81.fresh (i81a1_ HI0.out NB0_368.out) k_ hk_.1)⟩)) (keep_size (w := w) (g := g) (row := none) (G1_ HK.out GW368.out))); replace BK368 := Aside0.mk (KeepBut.blk hk (g' := gb368) (o := .cells #[.int .i64 0, .slice none 0 0, .slice none 0 0] 30 (0, 0)) (K_ BK368.out) NB368_0.out (by simp)); replace HK := Aside0.mk (KeepBut.trans (G1_ HK.out GW368.out) hk (.inl rfl)); replace HB := Aside0.mk (hb); replace HI0 := Aside0.mk (hi); (try clear hb); (try clear hb2); (try clear hk); (try clear hi); (try clear ho0); (try clear ho1)) | ((with_reducible refine gate_dst (N := 3) rfl ?_); refine box_event ?hg (N := 3) ?hd (cs := #[.int .i64 0, .slice none 0 0, .slice none 0 0]) (t := 30) ?hr ?_; (case hd => rfl); (case hg => rfl); (case hr => first | (go_simp; done) | (go_simp; rfl)); intro gb378 hg w8 hbox hb; replace HO372 := rb_ HO372 hb; replace HO375 := Aside0.mk (Kd.N_below (Kd.N_elderB (N_ HO375.out) gb378 (Nat.le_of_eq hg.symm)) hb); replace HB := Aside0.mk (below_step (B2_ HB.out (IsS81.ge HI0.out) GE368.out) hb); have BK378 := Aside0.mk (hbox); have GW378 := Aside0.mk ((by rw [hg]; exact (keep_size (w := w) (g := g) (row := none) (G1_ HK.out GW368.out)) : w.heap.size ≤ gb378)); have GE378 := Aside0.mk ((Nat.le_trans HW0.out (by rw [hg]; exact (keep_size (w := w) (g := g) (row := none) (G1_ HK.out GW368.out)) : w.heap.size ≤ gb378) : w0.heap.size ≤ gb378)); replace HK := Aside0.mk (KeepBut.trans (G1_ HK.out GW368.out) (KeepBut.of_below hb g none) (.inl rfl)); have NB368_378 := Aside0.mk ((by rw [hg]; exact Nat.ne_of_lt (blk_lt (K_ BK368.out)) : gb368 ≠ gb378)); have NB378_368 := Aside0.mk ((by rw [hg]; exact Nat.ne_of_gt (blk_lt (K_ BK368.out)) : gb378 ≠ gb368)); replace BK368 := kb_ BK368 hb; have NB0_378 := Aside0.mk ((by rw [hg]; exact Nat.ne_of_lt (IsS81.lt (show IsS81 w0 _ g s0_0 t376 t377 from i81a1_ HI0.out NB0_368.out)) : g ≠ gb378)); have NB378_0 := Aside0.mk ((by rw [hg]; exact Nat.ne_of_gt (IsS81.lt (show IsS81 w0 _ g s0_0 t376 t377 from i81a1_ HI0.out NB0_368.out)) : gb378 ≠ g)); replace HI0 := Aside0.mk (IsS81.below (i81a1_ HI0.out NB0_368.out) hb); clear hb hbox hg; have hnb9 := NB378_368.out; have hnc9 := NB368_378.out; have hnb10 := NB378_0.out; have hnc10 := NB0_378.out; obtain ⟨hcz11_0, hcz11_1, hcz11_2, hfz11_0, hfz11_1, hfz11_2⟩ := box3_ BK378.out; obtain ⟨Ao12, co12, eo12⟩ := Kd.R_slice HO372.out; subst eo12; obtain ⟨Ao13, co13, eo13⟩ := Kd.N_slice HO375.out; subst eo13) | ((with_reducible refine gate_callee (f := 74) rfl ?_); refine goesL_ (some 9) rfl rfl Try.func74 (by kernel_rfl) rfl #[.pointer (some ⟨g, 0, none⟩), .int .i64 10] rfl ma_ ?_; (with_reducible refine (spec_l1Below.calls g s0_0 t376 t377 10 t379 t380 t381 w0 _ ?side1 ?side2 A3.out).mono ?_); (case side1 => repeat (first | (with_reducible first | exact HI0.out | apply IsS81.alloc | apply IsS81.drewN | apply IsS81.drew | apply IsS81.set_1 | apply IsS81.set_2 | refine IsS81.far ?_ NB0_368.out _ | refine IsS81.far ?_ NB0_378.out _) | exact HI0.out)); (case side2 => repeat (first | (with_reducible first | exact HB.out | apply below_alloc | apply pw_below_drewN | apply below_drew1 | refine below_set ?_ (IsS81.ge HI0.out) | refine below_set ?_ GE368.out | refine below_set ?_ GE378.out) | exact HB.out)); rintro e w14 ⟨rfl, hi, hb, hk⟩; refine ⟨_, rfl, ?_⟩; replace BK368 := Aside0.mk (KeepBut.blk hk (g' := gb368) (o := .cells #[.int .i64 0, .slice none 0 0, .slice none 0 0] 30 (0, 0)) (by (with_reducible repeat (first | refine blk_drewN ?_ _ | refine blk_drew ?_ | refine blk_alloc ?_ _)); refine blk_far ?_ NB368_378.out _; (with_reducible repeat (first | refine blk_drewN ?_ _ | refine blk_drew ?_ | refine blk_alloc ?_ _)); refine blk_far ?_ NB368_378.out _; (with_reducible repeat (first | refine blk_drewN ?_ _ | refine blk_drew ?_ | refine blk_alloc ?_ _)); refine blk_far ?_ NB368_378.out _; (with_reducible repeat (first | refine blk_drewN ?_ _ | refine blk_drew ?_ | refine blk_alloc ?_ _)); exact BK368.out) NB368_0.out (by simp)); replace HO372 := Aside0.mk (Kd.R_mono (Kd.R_keep (IsS81.apart (show IsS81 w0 _ g s0_0 t376 t377 from i81a2_ HI0.out NB0_368.out NB0_378.out) (by (with_reducible repeat (first | apply Kd.R_alloc | apply Kd.R_drewN | apply Kd.R_drew)); exact (Kd.R_mono (Kd.R_far (p := ⟨gb378, 2, none⟩) (Kd.R_far (p := ⟨gb378, 1, none⟩) (Kd.R_far (p := ⟨gb378, 0, none⟩) (Kd.R_types HO372.out BK378.out (by decide)) (fun _ hk => hk.2) (.int .i64 t369)) (fun _ hk => hk.2) (.slice Ao12 t370.length co12)) (fun _ hk => hk.2) (.slice Ao13 t373.length co13)) (fun _ h_ => h_.1))) (by decide)) hk (fun _ h => h.2)) (fun _ h => h.1)); replace HO375 := Aside0.mk (Kd.N_mono (Kd.N_keep (Kd.N_mono (ok := fun k_ => ((((w.heap.size ≤ k_)) ∧ (some k_ ≠ (.slice Ao12 t370.length co12 : Value).ownBlock ∧ (k_ ≠ gb368 ∧ k_ ≠ g))) ∧ k_ ≠ gb378)) (by (with_reducible repeat (first | apply Kd.N_alloc | apply Kd.N_drewN | apply Kd.N_drew)); exact (Kd.N_mono (Kd.N_far (p := ⟨gb378, 2, none⟩) (Kd.N_far (p := ⟨gb378, 1, none⟩) (Kd.N_far (p := ⟨gb378, 0, none⟩) (Kd.N_mono HO375.out (fun k_ hk => (⟨hk, hk.2⟩ : _ ∧ k_ ≠ gb378))) (fun _ hk => hk.2) (.int .i64 t369)) (fun _ hk => hk.2) (.slice Ao12 t370.length co12)) (fun _ hk => hk.2) (.slice Ao13 t373.length co13)) (fun _ h_ => h_.1))) (fun k_ hk_ => (⟨hk_, hk_.1.2.2.2⟩ : _ ∧ k_ ≠ g))) hk (fun _ h => h.2)) (fun _ h => h.1)); replace BK378 := Aside0.mk (KeepBut.blk hk (g' := gb378) (o := .cells #[.int .i64 t369, .slice Ao12 t370.length co12, .slice Ao13 t373.length co13] 30 (0, 0)) (by (with_reducible repeat (first | refine blk_drewN ?_ _ | refine blk_drew ?_ | refine blk_alloc ?_ _)); refine blk_put (cs := #[.int .i64 t369, .slice Ao12 t370.length co12, .slice none 0 0]) ?_ 2 _ rfl; (with_reducible repeat (first | refine blk_drewN ?_ _ | refine blk_drew ?_ | refine blk_alloc ?_ _)); refine blk_put (cs := #[.int .i64 t369, .slice none 0 0, .slice none 0 0]) ?_ 1 _ rfl; (with_reducible repeat (first | refine blk_drewN ?_ _ | refine blk_drew ?_ | refine blk_alloc ?_ _)); refine blk_put (cs := #[.int .i64 0, .slice none 0 0, .slice none 0 0]) ?_ 0 _ rfl; (with_reducible repeat (first | refine blk_drewN ?_ _ | refine blk_drew ?_ | refine blk_alloc ?_ _)); exact BK378.out) NB378_0.out (by simp)); replace HK := Aside0.mk (KeepBut.trans (G2_ HK.out GW368.out GW378.out) hk (.inl rfl)); replace HB := Aside0.mk (hb); replace HI0 := Aside0.mk (hi); (try clear hb); (try clear hb2); (try clear hk); (try clear hi)) | ((with_reducible refine gate_callee (f := 74) rfl ?_); refine goesL_ (some 13) rfl rfl Try.func74 (by kernel_rfl) rfl #[.pointer (some ⟨g, 0, none⟩), .int .i64 7] rfl ma_ ?_; (with_reducible refine (spec_l1Below.calls g s0_0 t380 t381 7 t382 t383 t384 w0 _ ?side1 ?side2 A5.out).mono ?_); (case side1 => repeat (first | (with_reducible first | exact HI0.out | apply IsS81.alloc | apply IsS81.drewN | apply IsS81.drew | apply IsS81.set_1 | apply IsS81.set_2 | refine IsS81.far ?_ NB0_368.out _ | refine IsS81.far ?_ NB0_378.out _) | exact HI0.out)); (case side2 => repeat (first | (with_reducible first | exact HB.out | apply below_alloc | apply pw_below_drewN | apply below_drew1 | refine below_set ?_ (IsS81.ge HI0.out) | refine below_set ?_ GE368.out | refine below_set ?_ GE378.out) | exact HB.out)); rintro e w15 ⟨rfl, hi, hb, hk⟩; refine ⟨_, rfl, ?_⟩; replace BK368 := Aside0.mk (KeepBut.blk hk (g' := gb368) (o := .cells #[.int .i64 0, .slice none 0 0, .slice none 0 0] 30 (0, 0)) (K_ BK368.out) NB368_0.out (by simp)); replace HO372 := Aside0.mk (Kd.R_mono (Kd.R_keep (IsS81.apart (show IsS81 w0 _ g s0_0 t380 t381 from i81a2_ HI0.out NB0_368.out NB0_378.out) (R_ HO372.out) (by decide)) hk (fun _ h => h.2)) (fun _ h => h.1)); replace HO375 := Aside0.mk (Kd.N_mono (Kd.N_keep (Kd.N_mono (ok := fun k_ => ((((w.heap.size ≤ k_)) ∧ (some k_ ≠ (.slice Ao12 t370.length co12 : Value).ownBlock ∧ (k_ ≠ gb368 ∧ k_ ≠ g))) ∧ k_ ≠ gb378)) (N_ HO375.out) (fun k_ hk_ => (⟨hk_, hk_.1.2.2.2⟩ : _ ∧ k_ ≠ g))) hk (fun _ h => h.2)) (fun _ h => h.1)); replace BK378 := Aside0.mk (KeepBut.blk hk (g' := gb378) (o := .cells #[.int .i64 t369, .slice Ao12 t370.length co12, .slice Ao13 t373.length co13] 30 (0, 0)) (K_ BK378.out) NB378_0.out (by simp)); replace HK := Aside0.mk (KeepBut.trans (G2_ HK.out GW368.out GW378.out) hk (.inl rfl)); replace HB := Aside0.mk (hb); replace HI0 := Aside0.mk (hi); (try clear hb); (try clear hb2); (try clear hk); (try clear hi); obtain ⟨hcz16_0, hcz16_1, hcz16_2, hfz16_0, hfz16_1, hfz16_2⟩ := box3_ BK378.out; have hnb17 := NB368_0.out; have hnc17 := NB0_368.out; obtain ⟨hcz18_0, hcz18_1, hcz18_2, hfz18_0, hfz18_1, hfz18_2⟩ := box3_ BK368.out))
  refine bodyPost_ret (results_cell_row rfl _ _ gb368 30 #[.int .i64 t382, .slice Ao12 t370.length co12, .slice Ao13 t373.length co13] (0, 0) _ rfl (by (with_reducible repeat (first | refine blk_drewN ?_ _ | refine blk_drew ?_ | refine blk_alloc ?_ _)); refine blk_put (cs := #[.int .i64 t382, .slice Ao12 t370.length co12, .slice none 0 0]) ?_ 2 _ rfl; (with_reducible repeat (first | refine blk_drewN ?_ _ | refine blk_drew ?_ | refine blk_alloc ?_ _)); refine blk_put (cs := #[.int .i64 t382, .slice none 0 0, .slice none 0 0]) ?_ 1 _ rfl; (with_reducible repeat (first | refine blk_drewN ?_ _ | refine blk_drew ?_ | refine blk_alloc ?_ _)); refine blk_put (cs := #[.int .i64 0, .slice none 0 0, .slice none 0 0]) ?_ 0 _ rfl; (with_reducible repeat (first | refine blk_drewN ?_ _ | refine blk_drew ?_ | refine blk_alloc ?_ _)); refine blk_far ?_ NB368_378.out _; (with_reducible repeat (first | refine blk_drewN ?_ _ | refine blk_drew ?_ | refine blk_alloc ?_ _)); exact BK368.out) Try.underlying30 rfl (by kernel_rfl)) rfl ?_
  exact ⟨_, _, er_, by (with_reducible repeat (first | apply Kd.R_alloc | apply Kd.R_drewN | apply Kd.R_drew)); exact Kd.R_mono (Kd.R_far (p := ⟨gb368, 2, none⟩) (Kd.R_far (p := ⟨gb368, 1, none⟩) (Kd.R_far (p := ⟨gb368, 0, none⟩) (Kd.R_far (p := ⟨gb378, 0, none⟩) (Kd.R_types (Kd.R_types HO372.out BK378.out (by decide)) BK368.out (by decide)) (fun _ hk => hk.1.2) (.int .i64 t382)) (fun _ hk => hk.2) (.int .i64 t382)) (fun _ hk => hk.2) (.slice Ao12 t370.length co12)) (fun _ hk => hk.2) (.slice Ao13 t373.length co13)) (fun _ hk => hk.1.1.1), by (with_reducible repeat (first | apply Kd.N_alloc | apply Kd.N_drewN | apply Kd.N_drew)); exact Kd.N_mono (Kd.N_far (p := ⟨gb368, 2, none⟩) (Kd.N_far (p := ⟨gb368, 1, none⟩) (Kd.N_far (p := ⟨gb368, 0, none⟩) (Kd.N_far (p := ⟨gb378, 0, none⟩) (Kd.N_mono (Kd.N_mono HO375.out (fun k_ hk => (⟨hk, hk.2⟩ : _ ∧ k_ ≠ gb378))) (fun k_ hk => (⟨hk, hk.1.1.2.2.1⟩ : _ ∧ k_ ≠ gb368))) (fun _ hk => hk.1.2) (.int .i64 t382)) (fun _ hk => hk.2) (.int .i64 t382)) (fun _ hk => hk.2) (.slice Ao12 t370.length co12)) (fun _ hk => hk.2) (.slice Ao13 t373.length co13)) (fun _ hk => ⟨hk.1.1.1.1, hk.1.1.1.2.1⟩), i81a2_ HI0.out NB0_368.out NB0_378.out, B3_ HB.out (IsS81.ge HI0.out) GE368.out GE378.out, G2_ HK.out GW368.out GW378.out⟩
 ·rw [if_neg c4] at H
  have c4b0 : (t379 == 0) = false := beq_eq_false_iff_ne.mpr c4
  have c4b1 : (t379 != 0) = true := bne_iff_ne.mpr c4
  by_cases c19 : t379 = 1
  ·rw [if_pos c19] at H
   have c19b0 : (t379 == 1) = true := beq_iff_eq.mpr c19
   have c19b1 : (t379 != 1) = false := bne_eq_false_iff_eq.mpr c19
   clear c19
   obtain ⟨y385, hy385⟩ : ∃ y_ : List ByteArray, y_ = (([(⟨#[97]⟩ : ByteArray), (⟨#[122]⟩ : ByteArray), (⟨#[90]⟩ : ByteArray)] : List ByteArray)) := ⟨_, rfl⟩
   replace H : ((spec_l1Pick.f s0_0 t380 t381 y385).bind fun bt388 => (if t370.length < 8796093022208 then (some (t369, (t370 ++ [bt388.1]), t373, bt388.2.1, bt388.2.2)) else (none))) = some (r1, r2, r3, r4, r5) := by first | (rw [hy385]; with_reducible exact H) | (have H2_ := (Option.bind_some _ _).symm.trans H; rw [hy385]; with_reducible exact H2_) | (have H2_ := (Option.bind_some _ _).symm.trans H; with_reducible exact H2_) | with_reducible exact H | (rw [hy385]; exact H) | exact H
   have Ny385 := Aside0.mk hy385
   clear hy385
   replace H := Option.bind_eq_some_iff.mp H
   obtain ⟨⟨t388, t389, t390⟩, A200, H⟩ := H
   replace H : (if t370.length < 8796093022208 then (some (t369, (t370 ++ [t388]), t373, t389, t390)) else (none)) = some (r1, r2, r3, r4, r5) := H
   have A20 := Aside0.mk A200
   clear A200
   by_cases c21 : t370.length < 8796093022208
   ·rw [if_pos c21] at H
    have LMc21 := Aside0.mk c21
    clear c21
    obtain ⟨y391, hy391⟩ : ∃ y_ : List ByteArray, y_ = (t370 ++ [t388]) := ⟨_, rfl⟩
    replace H : (some (t369, y391, t373, t389, t390)) = some (r1, r2, r3, r4, r5) := by first | (rw [hy391]; with_reducible exact H) | (have H2_ := (Option.bind_some _ _).symm.trans H; rw [hy391]; with_reducible exact H2_) | (have H2_ := (Option.bind_some _ _).symm.trans H; with_reducible exact H2_) | with_reducible exact H | (rw [hy391]; exact H) | exact H
    have Ny391 := Aside0.mk hy391
    clear hy391
    simp only [Option.some.injEq, Prod.mk.injEq] at H
    obtain ⟨rfl, rfl, rfl, rfl, rfl⟩ := H
    go_enter Try.func54, Try.ntmps54
    try go_wp2_with (first | ((with_reducible refine gate_dst (N := 2) rfl ?_); refine box_event ?hg (N := 2) ?hd (cs := #[.int .i64 0, .slice none 0 0, .slice none 0 0]) (t := 30) ?hr ?_; (case hd => rfl); (case hg => rfl); (case hr => first | (go_simp; done) | (go_simp; rfl)); intro gb368 hg w22 hbox hb; replace HB := Aside0.mk (below_step (B1_ HB.out (IsS81.ge HI0.out)) hb); have BK368 := Aside0.mk (hbox); have GW368 := Aside0.mk ((by rw [hg]; exact (keep_size (w := w) (g := g) (row := none) (G0_ HK.out)) : w.heap.size ≤ gb368)); have GE368 := Aside0.mk ((Nat.le_trans HW0.out (by rw [hg]; exact (keep_size (w := w) (g := g) (row := none) (G0_ HK.out)) : w.heap.size ≤ gb368) : w0.heap.size ≤ gb368)); replace HK := Aside0.mk (KeepBut.trans (G0_ HK.out) (KeepBut.of_below hb g none) (.inl rfl)); have NB0_368 := Aside0.mk ((by rw [hg]; exact Nat.ne_of_lt (IsS81.lt (show IsS81 w0 _ g s0_0 s0_1 s0_2 from i81a0_ HI0.out)) : g ≠ gb368)); have NB368_0 := Aside0.mk ((by rw [hg]; exact Nat.ne_of_gt (IsS81.lt (show IsS81 w0 _ g s0_0 s0_1 s0_2 from i81a0_ HI0.out)) : gb368 ≠ g)); replace HI0 := Aside0.mk (IsS81.below (i81a0_ HI0.out) hb); clear hb hbox hg) | ((with_reducible refine gate_callee (f := 73) rfl ?_); refine goesL_ (some 7) rfl rfl Try.func73 (by kernel_rfl) rfl #[.pointer (some ⟨g, 0, none⟩), .int .i64 4] rfl ma_ ?_; (with_reducible refine (spec_l3Draw.calls k g s0_0 s0_1 s0_2 4 t369 t370 t373 t376 t377 w0 _ ?side1 ?side2 A2.out).mono ?_); (case side1 => repeat (first | (with_reducible first | exact HI0.out | apply IsS81.alloc | apply IsS81.drewN | apply IsS81.drew | apply IsS81.set_1 | apply IsS81.set_2 | refine IsS81.far ?_ NB0_368.out _) | exact HI0.out)); (case side2 => repeat (first | (with_reducible first | exact HB.out | apply below_alloc | apply pw_below_drewN | apply below_drew1 | refine below_set ?_ (IsS81.ge HI0.out) | refine below_set ?_ GE368.out) | exact HB.out)); rintro e w23 ⟨v371, v374, rfl, ho0, ho1, hi, hb, hk⟩; refine ⟨_, rfl, ?_⟩; have HO372 := Aside0.mk (Kd.R_lower (Kd.R_newM (M := fun k_ => (w.heap.size ≤ k_)) (Kd.R_mono (ok' := fun k_ => True) ho0 (fun _ hk_ => trivial)) (keep_size (w := w) (g := g) (row := none) (G1_ HK.out GW368.out)) (fun k_ h_ => h_)) (keep_size (w := w) (g := g) (row := none) (G1_ HK.out GW368.out))); have HO375 := Aside0.mk (Kd.N_lower (Kd.N_mono (ok' := fun k_ => (w.heap.size ≤ k_) ∧ some k_ ≠ (v371 : Value).ownBlock ∧ k_ ≠ gb368 ∧ k_ ≠ g) ho1 (fun k_ hk_ => ⟨(Nat.le_trans (keep_size (w := w) (g := g) (row := none) (G1_ HK.out GW368.out)) hk_.1), hk_.2, (Kd.freshB (K_ BK368.out) k_ hk_.1), (IsS81.fresh (i81a1_ HI0.out NB0_368.out) k_ hk_.1)⟩)) (keep_size (w := w) (g := g) (row := none) (G1_ HK.out GW368.out))); replace BK368 := Aside0.mk (KeepBut.blk hk (g' := gb368) (o := .cells #[.int .i64 0, .slice none 0 0, .slice none 0 0] 30 (0, 0)) (K_ BK368.out) NB368_0.out (by simp)); replace HK := Aside0.mk (KeepBut.trans (G1_ HK.out GW368.out) hk (.inl rfl)); replace HB := Aside0.mk (hb); replace HI0 := Aside0.mk (hi); (try clear hb); (try clear hb2); (try clear hk); (try clear hi); (try clear ho0); (try clear ho1)) | ((with_reducible refine gate_dst (N := 3) rfl ?_); refine box_event ?hg (N := 3) ?hd (cs := #[.int .i64 0, .slice none 0 0, .slice none 0 0]) (t := 30) ?hr ?_; (case hd => rfl); (case hg => rfl); (case hr => first | (go_simp; done) | (go_simp; rfl)); intro gb378 hg w24 hbox hb; replace HO372 := rb_ HO372 hb; replace HO375 := Aside0.mk (Kd.N_below (Kd.N_elderB (N_ HO375.out) gb378 (Nat.le_of_eq hg.symm)) hb); replace HB := Aside0.mk (below_step (B2_ HB.out (IsS81.ge HI0.out) GE368.out) hb); have BK378 := Aside0.mk (hbox); have GW378 := Aside0.mk ((by rw [hg]; exact (keep_size (w := w) (g := g) (row := none) (G1_ HK.out GW368.out)) : w.heap.size ≤ gb378)); have GE378 := Aside0.mk ((Nat.le_trans HW0.out (by rw [hg]; exact (keep_size (w := w) (g := g) (row := none) (G1_ HK.out GW368.out)) : w.heap.size ≤ gb378) : w0.heap.size ≤ gb378)); replace HK := Aside0.mk (KeepBut.trans (G1_ HK.out GW368.out) (KeepBut.of_below hb g none) (.inl rfl)); have NB368_378 := Aside0.mk ((by rw [hg]; exact Nat.ne_of_lt (blk_lt (K_ BK368.out)) : gb368 ≠ gb378)); have NB378_368 := Aside0.mk ((by rw [hg]; exact Nat.ne_of_gt (blk_lt (K_ BK368.out)) : gb378 ≠ gb368)); replace BK368 := kb_ BK368 hb; have NB0_378 := Aside0.mk ((by rw [hg]; exact Nat.ne_of_lt (IsS81.lt (show IsS81 w0 _ g s0_0 t376 t377 from i81a1_ HI0.out NB0_368.out)) : g ≠ gb378)); have NB378_0 := Aside0.mk ((by rw [hg]; exact Nat.ne_of_gt (IsS81.lt (show IsS81 w0 _ g s0_0 t376 t377 from i81a1_ HI0.out NB0_368.out)) : gb378 ≠ g)); replace HI0 := Aside0.mk (IsS81.below (i81a1_ HI0.out NB0_368.out) hb); clear hb hbox hg; have hnb25 := NB378_368.out; have hnc25 := NB368_378.out; have hnb26 := NB378_0.out; have hnc26 := NB0_378.out; obtain ⟨hcz27_0, hcz27_1, hcz27_2, hfz27_0, hfz27_1, hfz27_2⟩ := box3_ BK378.out; obtain ⟨Ao28, co28, eo28⟩ := Kd.R_slice HO372.out; subst eo28; obtain ⟨Ao29, co29, eo29⟩ := Kd.N_slice HO375.out; subst eo29) | ((with_reducible refine gate_callee (f := 74) rfl ?_); refine goesL_ (some 9) rfl rfl Try.func74 (by kernel_rfl) rfl #[.pointer (some ⟨g, 0, none⟩), .int .i64 10] rfl ma_ ?_; (with_reducible refine (spec_l1Below.calls g s0_0 t376 t377 10 t379 t380 t381 w0 _ ?side1 ?side2 A3.out).mono ?_); (case side1 => repeat (first | (with_reducible first | exact HI0.out | apply IsS81.alloc | apply IsS81.drewN | apply IsS81.drew | apply IsS81.set_1 | apply IsS81.set_2 | refine IsS81.far ?_ NB0_368.out _ | refine IsS81.far ?_ NB0_378.out _) | exact HI0.out)); (case side2 => repeat (first | (with_reducible first | exact HB.out | apply below_alloc | apply pw_below_drewN | apply below_drew1 | refine below_set ?_ (IsS81.ge HI0.out) | refine below_set ?_ GE368.out | refine below_set ?_ GE378.out) | exact HB.out)); rintro e w30 ⟨rfl, hi, hb, hk⟩; refine ⟨_, rfl, ?_⟩; replace BK368 := Aside0.mk (KeepBut.blk hk (g' := gb368) (o := .cells #[.int .i64 0, .slice none 0 0, .slice none 0 0] 30 (0, 0)) (by (with_reducible repeat (first | refine blk_drewN ?_ _ | refine blk_drew ?_ | refine blk_alloc ?_ _)); refine blk_far ?_ NB368_378.out _; (with_reducible repeat (first | refine blk_drewN ?_ _ | refine blk_drew ?_ | refine blk_alloc ?_ _)); refine blk_far ?_ NB368_378.out _; (with_reducible repeat (first | refine blk_drewN ?_ _ | refine blk_drew ?_ | refine blk_alloc ?_ _)); refine blk_far ?_ NB368_378.out _; (with_reducible repeat (first | refine blk_drewN ?_ _ | refine blk_drew ?_ | refine blk_alloc ?_ _)); exact BK368.out) NB368_0.out (by simp)); replace HO372 := Aside0.mk (Kd.R_mono (Kd.R_keep (IsS81.apart (show IsS81 w0 _ g s0_0 t376 t377 from i81a2_ HI0.out NB0_368.out NB0_378.out) (by (with_reducible repeat (first | apply Kd.R_alloc | apply Kd.R_drewN | apply Kd.R_drew)); exact (Kd.R_mono (Kd.R_far (p := ⟨gb378, 2, none⟩) (Kd.R_far (p := ⟨gb378, 1, none⟩) (Kd.R_far (p := ⟨gb378, 0, none⟩) (Kd.R_types HO372.out BK378.out (by decide)) (fun _ hk => hk.2) (.int .i64 t369)) (fun _ hk => hk.2) (.slice Ao28 t370.length co28)) (fun _ hk => hk.2) (.slice Ao29 t373.length co29)) (fun _ h_ => h_.1))) (by decide)) hk (fun _ h => h.2)) (fun _ h => h.1)); replace HO375 := Aside0.mk (Kd.N_mono (Kd.N_keep (Kd.N_mono (ok := fun k_ => ((((w.heap.size ≤ k_)) ∧ (some k_ ≠ (.slice Ao28 t370.length co28 : Value).ownBlock ∧ (k_ ≠ gb368 ∧ k_ ≠ g))) ∧ k_ ≠ gb378)) (by (with_reducible repeat (first | apply Kd.N_alloc | apply Kd.N_drewN | apply Kd.N_drew)); exact (Kd.N_mono (Kd.N_far (p := ⟨gb378, 2, none⟩) (Kd.N_far (p := ⟨gb378, 1, none⟩) (Kd.N_far (p := ⟨gb378, 0, none⟩) (Kd.N_mono HO375.out (fun k_ hk => (⟨hk, hk.2⟩ : _ ∧ k_ ≠ gb378))) (fun _ hk => hk.2) (.int .i64 t369)) (fun _ hk => hk.2) (.slice Ao28 t370.length co28)) (fun _ hk => hk.2) (.slice Ao29 t373.length co29)) (fun _ h_ => h_.1))) (fun k_ hk_ => (⟨hk_, hk_.1.2.2.2⟩ : _ ∧ k_ ≠ g))) hk (fun _ h => h.2)) (fun _ h => h.1)); replace BK378 := Aside0.mk (KeepBut.blk hk (g' := gb378) (o := .cells #[.int .i64 t369, .slice Ao28 t370.length co28, .slice Ao29 t373.length co29] 30 (0, 0)) (by (with_reducible repeat (first | refine blk_drewN ?_ _ | refine blk_drew ?_ | refine blk_alloc ?_ _)); refine blk_put (cs := #[.int .i64 t369, .slice Ao28 t370.length co28, .slice none 0 0]) ?_ 2 _ rfl; (with_reducible repeat (first | refine blk_drewN ?_ _ | refine blk_drew ?_ | refine blk_alloc ?_ _)); refine blk_put (cs := #[.int .i64 t369, .slice none 0 0, .slice none 0 0]) ?_ 1 _ rfl; (with_reducible repeat (first | refine blk_drewN ?_ _ | refine blk_drew ?_ | refine blk_alloc ?_ _)); refine blk_put (cs := #[.int .i64 0, .slice none 0 0, .slice none 0 0]) ?_ 0 _ rfl; (with_reducible repeat (first | refine blk_drewN ?_ _ | refine blk_drew ?_ | refine blk_alloc ?_ _)); exact BK378.out) NB378_0.out (by simp)); replace HK := Aside0.mk (KeepBut.trans (G2_ HK.out GW368.out GW378.out) hk (.inl rfl)); replace HB := Aside0.mk (hb); replace HI0 := Aside0.mk (hi); (try clear hb); (try clear hb2); (try clear hk); (try clear hi)))
    replace HO372 := Aside0.mk (Kd.R_drew HO372.out)
    replace HO375 := Aside0.mk (Kd.N_drew HO375.out)
    replace BK368 := Aside0.mk (blk_drew BK368.out)
    replace BK378 := Aside0.mk (blk_drew BK378.out)
    replace HI0 := Aside0.mk (IsS81.drew HI0.out)
    replace HK := Aside0.mk (keep_drew HK.out)
    replace HB := Aside0.mk (below_drew1 HB.out)
    refine start_ (n := 9) (S := fun w' => w'.cell? ⟨gb378, 0, none⟩ = some (.int .i64 t369) ∧ w'.cell? ⟨gb378, 1, none⟩ = some (.slice Ao28 t370.length co28) ∧ w'.cell? ⟨gb378, 2, none⟩ = some (.slice Ao29 t373.length co29)) (ds := [8]) #[false, false, false, false, false, false, false, false, false] (by kernel_rfl) rfl rfl ⟨(blk_cell BK378.out 0).trans rfl, (blk_cell BK378.out 1).trans rfl, (blk_cell BK378.out 2).trans rfl⟩ (fun hHeld => ?_); refine with_tabW spec_l3Bent.tab6 spec_l3Bent.bits6 (fun HT_ HW_ => ?_)
    generalize w30.drew = w31 at HO372 HO375 BK368 BK378 HI0 HK HB hHeld ⊢
    refine pu_ HT_ (i := 0) (N := some 17) (mk_ 9 1) rfl rfl ?_
    refine pu_ HT_ (i := 2) (N := some 19) (mk_ 9 5) rfl rfl ?_
    refine tk_ HT_ HW_ hHeld (i := 1) (N := some 18) (mk_ 9 7) rfl rfl ?_
    refine on_ HT_ (i := 3) (N := some 20) (mk_ 9 15) rfl rfl (fun K hK => ?_)
    refine Kd.R_lit_step Kd.string _ 9 ?hg (N := 20) ?hd (xs := ([(⟨#[97]⟩ : ByteArray), (⟨#[122]⟩ : ByteArray), (⟨#[90]⟩ : ByteArray)] : List ByteArray)) (inner := [.string (⟨#[97]⟩ : ByteArray), .string (⟨#[122]⟩ : ByteArray), .string (⟨#[90]⟩ : ByteArray)]) (ok := fun _ => True) (okp := fun _ => True) ?hr ?hp (fun _ hk => hk) trivial (Below.refl _ _) (Nat.le_refl _) (by simp) ?_; (case hd => rfl); (case hg => rfl); (case hr => first | (go_simp; done) | (go_simp; rfl)); (case hp => exact (Reps.one (show Kd.M Kd.string _ _ _ (⟨#[97]⟩ : ByteArray) [.string (⟨#[97]⟩ : ByteArray)] from rfl) (Reps.one (show Kd.M Kd.string _ _ _ (⟨#[122]⟩ : ByteArray) [.string (⟨#[122]⟩ : ByteArray)] from rfl) (Reps.one (show Kd.M Kd.string _ _ _ (⟨#[90]⟩ : ByteArray) [.string (⟨#[90]⟩ : ByteArray)] from rfl) (Reps.none _ _)))))
    intro v386 w32 ho33 hb hg_ hnew_
    clear hg_ hnew_
    (first | rw [← Ny385.out] at ho33 | (simp only [Int.reduceToNat] at ho33; rw [← Ny385.out] at ho33))
    replace HO375 := Aside0.mk (Kd.N_elder' (N_ HO375.out) (Kd.R_base ho33) hb)
    have HO387 := Aside0.mk (Kd.R_lower (Kd.R_new' (Kd.R_newM (M := fun k_ => (w.heap.size ≤ k_)) ho33 (keep_size (w := w) (g := g) (row := none) (G2_ HK.out GW368.out GW378.out)) (fun k_ h_ => h_)) (Kd.R_lt (R_ HO372.out))) (keep_size (w := w) (g := g) (row := none) (G2_ HK.out GW368.out GW378.out)))
    replace HO372 := Aside0.mk (Kd.R_elder' (R_ HO372.out) (Kd.R_base ho33) hb)
    replace BK368 := kb_ BK368 hb
    replace BK378 := kb_ BK378 hb
    replace HK := Aside0.mk (KeepBut.trans (G2_ HK.out GW368.out GW378.out) (KeepBut.of_below hb g none) (.inl rfl))
    replace HB := Aside0.mk (below_step (B3_ HB.out (IsS81.ge HI0.out) GE368.out GE378.out) hb)
    replace HI0 := Aside0.mk (IsS81.below (i81a2_ HI0.out NB0_368.out NB0_378.out) hb)
    clear hb ho33
    obtain ⟨Ao34, co34, eo34⟩ := Kd.R_slice HO387.out
    (first | subst eo34 | (injection eo34 with f1_ f2_ f3_; have f4_ := f1_.symm; have f5_ := f3_.symm; clear f1_ f2_ f3_; subst f4_; subst f5_))
    refine hK.out _ _ ⟨(blk_cell BK378.out 0).trans rfl, (blk_cell BK378.out 1).trans rfl, (blk_cell BK378.out 2).trans rfl⟩ (fun hHeld => ?_)
    clear hK K
    refine nm_ (some 20) ?_
    refine on_ HT_ (i := 4) (N := some 21) (mk_ 9 31) rfl rfl (fun K hK => ?_)
    refine goes_ Try.func58 (by kernel_rfl) rfl #[.pointer (some ⟨g, 0, none⟩), .slice Ao34 y385.length co34] (by rfl) rfl rfl ma_ ?_
    with_reducible refine (spec_l1Pick.calls g s0_0 t380 t381 _ _ y385 t388 t389 t390 w0 _ ?side1 ?side2 ?side3 ?side4 ?side5 A20.out).mono ?_
    (case side1 => repeat (first | (with_reducible first | exact HI0.out | apply IsS81.alloc | apply IsS81.drewN | apply IsS81.drew | apply IsS81.set_1 | apply IsS81.set_2 | refine IsS81.far ?_ NB0_368.out _ | refine IsS81.far ?_ NB0_378.out _) | exact HI0.out))
    (case side2 => repeat (first | (with_reducible first | exact HB.out | apply below_alloc | apply pw_below_drewN | apply below_drew1 | refine below_set ?_ (IsS81.ge HI0.out) | refine below_set ?_ GE368.out | refine below_set ?_ GE378.out) | exact HB.out))
    (case side3 => exact crb_ HO387)
    (case side4 => exact lrb_ HO387)
    (case side5 => exact far_slice (IsS81.own_ne HI0.out HO387.out (by decide)))
    rintro e w35 ⟨rfl, hi, hb, hk⟩
    refine ⟨_, rfl, ?_⟩
    replace BK368 := Aside0.mk (KeepBut.blk hk (g' := gb368) (o := .cells #[.int .i64 0, .slice none 0 0, .slice none 0 0] 30 (0, 0)) (K_ BK368.out) NB368_0.out (by simp))
    replace HO372 := Aside0.mk (Kd.R_mono (Kd.R_keep (IsS81.apart (show IsS81 w0 _ g s0_0 t380 t381 from i81a2_ HI0.out NB0_368.out NB0_378.out) (R_ HO372.out) (by decide)) hk (fun _ h => h.2)) (fun _ h => h.1))
    replace HO375 := Aside0.mk (Kd.N_mono (Kd.N_keep (Kd.N_mono (ok := fun k_ => (((((w.heap.size ≤ k_)) ∧ (some k_ ≠ (.slice Ao28 t370.length co28 : Value).ownBlock ∧ (k_ ≠ gb368 ∧ k_ ≠ g))) ∧ k_ ≠ gb378) ∧ some k_ ≠ (.slice Ao34 y385.length co34 : Value).ownBlock)) (N_ HO375.out) (fun k_ hk_ => (⟨hk_, hk_.1.1.2.2.2⟩ : _ ∧ k_ ≠ g))) hk (fun _ h => h.2)) (fun _ h => h.1))
    replace BK378 := Aside0.mk (KeepBut.blk hk (g' := gb378) (o := .cells #[.int .i64 t369, .slice Ao28 t370.length co28, .slice Ao29 t373.length co29] 30 (0, 0)) (K_ BK378.out) NB378_0.out (by simp))
    replace HO387 := Aside0.mk (Kd.R_mono (Kd.R_keep (IsS81.apart (show IsS81 w0 _ g s0_0 t380 t381 from i81a2_ HI0.out NB0_368.out NB0_378.out) (R_ HO387.out) (by decide)) hk (fun _ h => h.2)) (fun _ h => h.1))
    replace HK := Aside0.mk (KeepBut.trans (G2_ HK.out GW368.out GW378.out) hk (.inl rfl))
    replace HB := Aside0.mk (hb)
    replace HI0 := Aside0.mk (hi)
    (try clear hb)
    (try clear hb2)
    (try clear hk)
    (try clear hi)
    refine hK.out _ _ ⟨(blk_cell BK378.out 0).trans rfl, (blk_cell BK378.out 1).trans rfl, (blk_cell BK378.out 2).trans rfl⟩ (fun hHeld => ?_)
    clear hK K
    refine nm_ (some 21) ?_
    refine on_ HT_ (i := 5) (N := some 22) (mk_ 9 63) rfl rfl (fun K hK => ?_)
    refine value_ (w1 := ?_) (v := ?_) (by rfl) rfl ?_ ?_
    rotate_left 2
    ·go_simp
     constructor
     ·rfl
     ·rfl
    refine hK.out _ _ ⟨(blk_cell (blk_alloc BK378.out _) 0).trans rfl, (blk_cell (blk_alloc BK378.out _) 1).trans rfl, (blk_cell (blk_alloc BK378.out _) 2).trans rfl⟩ (fun hHeld => ?_)
    clear hK K
    refine nm_ (some 22) ?_
    refine on_ HT_ (i := 6) (N := some 23) (mk_ 9 127) rfl rfl (fun K hK => ?_)
    refine Kd.R_append_step Kd.string w.heap.size (by rfl) (.tmp 18) (.tmp 22) 22 9 (.string ⟨#[]⟩) 16 rfl Try.underlying22 info9 rfl (by decide) (by omega) (.slice Ao28 t370.length co28) t370 t388 [.string t388] (fun k_ => (w.heap.size ≤ k_) ∧ some k_ ≠ (.slice Ao34 y385.length co34 : Value).ownBlock) (fun _ => False) rfl rfl ?aP (fun _ hk => hk.elim) ?aF ?aO (Below.refl _ _) ?aS ?aL ?_
    (case aP => exact rfl)
    (case aF => exact (fun k_ hk => ⟨(Nat.le_trans (keep_size (w := w) (g := g) (row := none) (G2_ HK.out GW368.out GW378.out)) hk), Kd.fresh' (Kd.R_lt (R_ HO387.out)) k_ hk⟩))
    (case aO => exact (by (with_reducible repeat (first | apply Kd.R_alloc | apply Kd.R_drewN | apply Kd.R_drew)); exact Kd.R_mono HO372.out (fun _ hk => ⟨hk.1.1, hk.2⟩)))
    (case aS => exact (keep_size (w := w) (g := g) (row := none) (G2_ HK.out GW368.out GW378.out)))
    (case aL => have := LMc21.out; omega)
    intro v392 w36 ho hb hg hat
    rw [← Ny391.out] at ho
    replace BK368 := Aside0.mk (blk_grown (g := gb368) (o := .cells #[.int .i64 0, .slice none 0 0, .slice none 0 0] 30 (0, 0)) (K_ BK368.out) hg (Kd.R_ne HO372.out BK368.out (by decide)))
    replace HO375 := Aside0.mk (Kd.N_afterv (ok := (fun k_ => (w.heap.size ≤ k_) ∧ some k_ ≠ (.slice Ao34 y385.length co34 : Value).ownBlock ∧ k_ ≠ gb368 ∧ k_ ≠ g ∧ k_ ≠ gb378)) (by (with_reducible repeat (first | apply Kd.N_alloc | apply Kd.N_drewN | apply Kd.N_drew)); exact Kd.N_mono HO375.out (fun _ hk => ⟨⟨hk.1.1.1, ⟨hk.2, ⟨hk.1.1.2.2.1, ⟨hk.1.1.2.2.2, hk.1.2⟩⟩⟩⟩, hk.1.1.2.1⟩)) hg hat)
    replace BK378 := Aside0.mk (blk_grown (g := gb378) (o := .cells #[.int .i64 t369, .slice Ao28 t370.length co28, .slice Ao29 t373.length co29] 30 (0, 0)) (K_ BK378.out) hg (Kd.R_ne HO372.out BK378.out (by decide)))
    replace HO387 := Aside0.mk (Kd.R_after (ok := (fun k_ => (w.heap.size ≤ k_))) (by (with_reducible repeat (first | apply Kd.R_alloc | apply Kd.R_drewN | apply Kd.R_drew)); exact Kd.R_mono HO387.out (fun _ hk => ⟨hk.1.1, hk.2⟩)) hg hat)
    replace HB := Aside0.mk (below_weaken (B3_ HB.out (IsS81.ge HI0.out) GE368.out GE378.out) HL.out hb)
    replace HI0 := Aside0.mk (IsS81.grown (i81a2_ HI0.out NB0_368.out NB0_378.out) hg (IsS81.own_ne HI0.out HO372.out (by decide)))
    replace HK := Aside0.mk (KeepBut.trans (G2_ HK.out GW368.out GW378.out) (KeepBut.of_grown hg g) (Kd.R_base2 HO372.out))
    have HO393 := Aside0.mk (ho)
    clear HO372
    clear ho hb hg hat
    obtain ⟨Ao37, co37, eo37⟩ := Kd.R_slice HO393.out
    (first | subst eo37 | (injection eo37 with f1_ f2_ f3_; have f4_ := f1_.symm; have f5_ := f3_.symm; clear f1_ f2_ f3_; subst f4_; subst f5_))
    refine hK.out _ _ ⟨(blk_cell BK378.out 0).trans rfl, (blk_cell BK378.out 1).trans rfl, (blk_cell BK378.out 2).trans rfl⟩ (fun hHeld => ?_)
    clear hK K
    refine nm_ (some 23) ?_
    refine pu_ HT_ (i := 7) (N := some 24) (mk_ 9 255) rfl rfl ?_
    refine last_ (i := 8) (N := none) #[true, true, true, true, true, true, true, true, true] rfl rfl (one_of HT_.out (by kernel_rfl)) (by decide) (fun K hK => ?_)
    have hs38 : w36.cell? ⟨gb378, 1, none⟩ = some (.slice Ao28 t370.length co28) := (blk_cell BK378.out 1).trans rfl
    have hfs38 := blk_frozen BK378.out 1
    have hns38_0 := NB368_378.out
    have hms38_0 := NB378_368.out
    refine skip_ (w1 := ?_) (by rfl) rfl ?_ ?_
    rotate_left
    ·go_simp
     rfl
    refine hK.out _ _ ?_
    clear hK K
    refine done_ (done_of HT_.out (by kernel_rfl)) ?_
    obtain ⟨hcz39_0, hcz39_1, hcz39_2, hfz39_0, hfz39_1, hfz39_2⟩ := box3_ BK378.out
    have hnb40 := NB368_0.out
    have hnc40 := NB0_368.out
    obtain ⟨hcz41_0, hcz41_1, hcz41_2, hfz41_0, hfz41_1, hfz41_2⟩ := box3_ BK368.out
    try go_wp2
    refine bodyPost_ret (results_cell_row rfl _ _ gb368 30 #[.int .i64 t369, .slice Ao37 y391.length co37, .slice Ao29 t373.length co29] (0, 0) _ rfl (by (with_reducible repeat (first | refine blk_drewN ?_ _ | refine blk_drew ?_ | refine blk_alloc ?_ _)); refine blk_put (cs := #[.int .i64 t369, .slice Ao37 y391.length co37, .slice none 0 0]) ?_ 2 _ rfl; (with_reducible repeat (first | refine blk_drewN ?_ _ | refine blk_drew ?_ | refine blk_alloc ?_ _)); refine blk_put (cs := #[.int .i64 t369, .slice none 0 0, .slice none 0 0]) ?_ 1 _ rfl; (with_reducible repeat (first | refine blk_drewN ?_ _ | refine blk_drew ?_ | refine blk_alloc ?_ _)); refine blk_put (cs := #[.int .i64 0, .slice none 0 0, .slice none 0 0]) ?_ 0 _ rfl; (with_reducible repeat (first | refine blk_drewN ?_ _ | refine blk_drew ?_ | refine blk_alloc ?_ _)); refine blk_far ?_ NB368_378.out _; (with_reducible repeat (first | refine blk_drewN ?_ _ | refine blk_drew ?_ | refine blk_alloc ?_ _)); exact BK368.out) Try.underlying30 rfl (by kernel_rfl)) rfl ?_
    exact ⟨_, _, er_, by (with_reducible repeat (first | apply Kd.R_alloc | apply Kd.R_drewN | apply Kd.R_drew)); exact Kd.R_mono (Kd.R_far (p := ⟨gb368, 2, none⟩) (Kd.R_far (p := ⟨gb368, 1, none⟩) (Kd.R_far (p := ⟨gb368, 0, none⟩) (Kd.R_far (p := ⟨gb378, 1, none⟩) (Kd.R_types (Kd.R_types HO393.out BK378.out (by decide)) BK368.out (by decide)) (fun _ hk => hk.1.2) (.slice Ao37 y391.length co37)) (fun _ hk => hk.2) (.int .i64 t369)) (fun _ hk => hk.2) (.slice Ao37 y391.length co37)) (fun _ hk => hk.2) (.slice Ao29 t373.length co29)) (fun _ hk => hk.1.1.1), by (with_reducible repeat (first | apply Kd.N_alloc | apply Kd.N_drewN | apply Kd.N_drew)); exact Kd.N_mono (Kd.N_far (p := ⟨gb368, 2, none⟩) (Kd.N_far (p := ⟨gb368, 1, none⟩) (Kd.N_far (p := ⟨gb368, 0, none⟩) (Kd.N_far (p := ⟨gb378, 1, none⟩) (Kd.N_mono (Kd.N_mono HO375.out (fun k_ hk => (⟨hk, hk.1.2.2.2.2⟩ : _ ∧ k_ ≠ gb378))) (fun k_ hk => (⟨hk, hk.1.1.2.2.1⟩ : _ ∧ k_ ≠ gb368))) (fun _ hk => hk.1.2) (.slice Ao37 y391.length co37)) (fun _ hk => hk.2) (.int .i64 t369)) (fun _ hk => hk.2) (.slice Ao37 y391.length co37)) (fun _ hk => hk.2) (.slice Ao29 t373.length co29)) (fun _ hk => ⟨hk.1.1.1.1, hk.1.1.2⟩), i81a2_ HI0.out NB0_368.out NB0_378.out, B3_ HB.out (IsS81.ge HI0.out) GE368.out GE378.out, G2_ HK.out GW368.out GW378.out⟩
   ·rw [if_neg c21] at H
    exact absurd H (by simp)
  ·rw [if_neg c19] at H
   have c19b0 : (t379 == 1) = false := beq_eq_false_iff_ne.mpr c19
   have c19b1 : (t379 != 1) = true := bne_iff_ne.mpr c19
   by_cases c42 : t379 = 2
   ·rw [if_pos c42] at H
    have c42b0 : (t379 == 2) = true := beq_iff_eq.mpr c42
    have c42b1 : (t379 != 2) = false := bne_eq_false_iff_eq.mpr c42
    clear c42
    replace H := Option.bind_eq_some_iff.mp H
    obtain ⟨⟨t394, t395, t398⟩, A430, H⟩ := H
    replace H : (if t373.length < 2513169434916 then (some (t369, t370, (t373 ++ [(⟨t394, t395, t398⟩ : S30)]), t380, t381)) else (none)) = some (r1, r2, r3, r4, r5) := H
    have A43 := Aside0.mk A430
    clear A430
    by_cases c44 : t373.length < 2513169434916
    ·rw [if_pos c44] at H
     have LMc44 := Aside0.mk c44
     clear c44
     obtain ⟨y401, hy401⟩ : ∃ y_ : List (S30), y_ = (t373 ++ [(⟨t394, t395, t398⟩ : S30)]) := ⟨_, rfl⟩
     replace H : (some (t369, t370, y401, t380, t381)) = some (r1, r2, r3, r4, r5) := by first | (rw [hy401]; with_reducible exact H) | (have H2_ := (Option.bind_some _ _).symm.trans H; rw [hy401]; with_reducible exact H2_) | (have H2_ := (Option.bind_some _ _).symm.trans H; with_reducible exact H2_) | with_reducible exact H | (rw [hy401]; exact H) | exact H
     have Ny401 := Aside0.mk hy401
     clear hy401
     simp only [Option.some.injEq, Prod.mk.injEq] at H
     obtain ⟨rfl, rfl, rfl, rfl, rfl⟩ := H
     go_enter Try.func54, Try.ntmps54
     try go_wp2_with (first | ((with_reducible refine gate_dst (N := 2) rfl ?_); refine box_event ?hg (N := 2) ?hd (cs := #[.int .i64 0, .slice none 0 0, .slice none 0 0]) (t := 30) ?hr ?_; (case hd => rfl); (case hg => rfl); (case hr => first | (go_simp; done) | (go_simp; rfl)); intro gb368 hg w45 hbox hb; replace HB := Aside0.mk (below_step (B1_ HB.out (IsS81.ge HI0.out)) hb); have BK368 := Aside0.mk (hbox); have GW368 := Aside0.mk ((by rw [hg]; exact (keep_size (w := w) (g := g) (row := none) (G0_ HK.out)) : w.heap.size ≤ gb368)); have GE368 := Aside0.mk ((Nat.le_trans HW0.out (by rw [hg]; exact (keep_size (w := w) (g := g) (row := none) (G0_ HK.out)) : w.heap.size ≤ gb368) : w0.heap.size ≤ gb368)); replace HK := Aside0.mk (KeepBut.trans (G0_ HK.out) (KeepBut.of_below hb g none) (.inl rfl)); have NB0_368 := Aside0.mk ((by rw [hg]; exact Nat.ne_of_lt (IsS81.lt (show IsS81 w0 _ g s0_0 s0_1 s0_2 from i81a0_ HI0.out)) : g ≠ gb368)); have NB368_0 := Aside0.mk ((by rw [hg]; exact Nat.ne_of_gt (IsS81.lt (show IsS81 w0 _ g s0_0 s0_1 s0_2 from i81a0_ HI0.out)) : gb368 ≠ g)); replace HI0 := Aside0.mk (IsS81.below (i81a0_ HI0.out) hb); clear hb hbox hg) | ((with_reducible refine gate_callee (f := 73) rfl ?_); refine goesL_ (some 7) rfl rfl Try.func73 (by kernel_rfl) rfl #[.pointer (some ⟨g, 0, none⟩), .int .i64 4] rfl ma_ ?_; (with_reducible refine (spec_l3Draw.calls k g s0_0 s0_1 s0_2 4 t369 t370 t373 t376 t377 w0 _ ?side1 ?side2 A2.out).mono ?_); (case side1 => repeat (first | (with_reducible first | exact HI0.out | apply IsS81.alloc | apply IsS81.drewN | apply IsS81.drew | apply IsS81.set_1 | apply IsS81.set_2 | refine IsS81.far ?_ NB0_368.out _) | exact HI0.out)); (case side2 => repeat (first | (with_reducible first | exact HB.out | apply below_alloc | apply pw_below_drewN | apply below_drew1 | refine below_set ?_ (IsS81.ge HI0.out) | refine below_set ?_ GE368.out) | exact HB.out)); rintro e w46 ⟨v371, v374, rfl, ho0, ho1, hi, hb, hk⟩; refine ⟨_, rfl, ?_⟩; have HO372 := Aside0.mk (Kd.R_lower (Kd.R_newM (M := fun k_ => (w.heap.size ≤ k_)) (Kd.R_mono (ok' := fun k_ => True) ho0 (fun _ hk_ => trivial)) (keep_size (w := w) (g := g) (row := none) (G1_ HK.out GW368.out)) (fun k_ h_ => h_)) (keep_size (w := w) (g := g) (row := none) (G1_ HK.out GW368.out))); have HO375 := Aside0.mk (Kd.N_lower (Kd.N_mono (ok' := fun k_ => (w.heap.size ≤ k_) ∧ some k_ ≠ (v371 : Value).ownBlock ∧ k_ ≠ gb368 ∧ k_ ≠ g) ho1 (fun k_ hk_ => ⟨(Nat.le_trans (keep_size (w := w) (g := g) (row := none) (G1_ HK.out GW368.out)) hk_.1), hk_.2, (Kd.freshB (K_ BK368.out) k_ hk_.1), (IsS81.fresh (i81a1_ HI0.out NB0_368.out) k_ hk_.1)⟩)) (keep_size (w := w) (g := g) (row := none) (G1_ HK.out GW368.out))); replace BK368 := Aside0.mk (KeepBut.blk hk (g' := gb368) (o := .cells #[.int .i64 0, .slice none 0 0, .slice none 0 0] 30 (0, 0)) (K_ BK368.out) NB368_0.out (by simp)); replace HK := Aside0.mk (KeepBut.trans (G1_ HK.out GW368.out) hk (.inl rfl)); replace HB := Aside0.mk (hb); replace HI0 := Aside0.mk (hi); (try clear hb); (try clear hb2); (try clear hk); (try clear hi); (try clear ho0); (try clear ho1)) | ((with_reducible refine gate_dst (N := 3) rfl ?_); refine box_event ?hg (N := 3) ?hd (cs := #[.int .i64 0, .slice none 0 0, .slice none 0 0]) (t := 30) ?hr ?_; (case hd => rfl); (case hg => rfl); (case hr => first | (go_simp; done) | (go_simp; rfl)); intro gb378 hg w47 hbox hb; replace HO372 := rb_ HO372 hb; replace HO375 := Aside0.mk (Kd.N_below (Kd.N_elderB (N_ HO375.out) gb378 (Nat.le_of_eq hg.symm)) hb); replace HB := Aside0.mk (below_step (B2_ HB.out (IsS81.ge HI0.out) GE368.out) hb); have BK378 := Aside0.mk (hbox); have GW378 := Aside0.mk ((by rw [hg]; exact (keep_size (w := w) (g := g) (row := none) (G1_ HK.out GW368.out)) : w.heap.size ≤ gb378)); have GE378 := Aside0.mk ((Nat.le_trans HW0.out (by rw [hg]; exact (keep_size (w := w) (g := g) (row := none) (G1_ HK.out GW368.out)) : w.heap.size ≤ gb378) : w0.heap.size ≤ gb378)); replace HK := Aside0.mk (KeepBut.trans (G1_ HK.out GW368.out) (KeepBut.of_below hb g none) (.inl rfl)); have NB368_378 := Aside0.mk ((by rw [hg]; exact Nat.ne_of_lt (blk_lt (K_ BK368.out)) : gb368 ≠ gb378)); have NB378_368 := Aside0.mk ((by rw [hg]; exact Nat.ne_of_gt (blk_lt (K_ BK368.out)) : gb378 ≠ gb368)); replace BK368 := kb_ BK368 hb; have NB0_378 := Aside0.mk ((by rw [hg]; exact Nat.ne_of_lt (IsS81.lt (show IsS81 w0 _ g s0_0 t376 t377 from i81a1_ HI0.out NB0_368.out)) : g ≠ gb378)); have NB378_0 := Aside0.mk ((by rw [hg]; exact Nat.ne_of_gt (IsS81.lt (show IsS81 w0 _ g s0_0 t376 t377 from i81a1_ HI0.out NB0_368.out)) : gb378 ≠ g)); replace HI0 := Aside0.mk (IsS81.below (i81a1_ HI0.out NB0_368.out) hb); clear hb hbox hg; have hnb48 := NB378_368.out; have hnc48 := NB368_378.out; have hnb49 := NB378_0.out; have hnc49 := NB0_378.out; obtain ⟨hcz50_0, hcz50_1, hcz50_2, hfz50_0, hfz50_1, hfz50_2⟩ := box3_ BK378.out; obtain ⟨Ao51, co51, eo51⟩ := Kd.R_slice HO372.out; subst eo51; obtain ⟨Ao52, co52, eo52⟩ := Kd.N_slice HO375.out; subst eo52) | ((with_reducible refine gate_callee (f := 74) rfl ?_); refine goesL_ (some 9) rfl rfl Try.func74 (by kernel_rfl) rfl #[.pointer (some ⟨g, 0, none⟩), .int .i64 10] rfl ma_ ?_; (with_reducible refine (spec_l1Below.calls g s0_0 t376 t377 10 t379 t380 t381 w0 _ ?side1 ?side2 A3.out).mono ?_); (case side1 => repeat (first | (with_reducible first | exact HI0.out | apply IsS81.alloc | apply IsS81.drewN | apply IsS81.drew | apply IsS81.set_1 | apply IsS81.set_2 | refine IsS81.far ?_ NB0_368.out _ | refine IsS81.far ?_ NB0_378.out _) | exact HI0.out)); (case side2 => repeat (first | (with_reducible first | exact HB.out | apply below_alloc | apply pw_below_drewN | apply below_drew1 | refine below_set ?_ (IsS81.ge HI0.out) | refine below_set ?_ GE368.out | refine below_set ?_ GE378.out) | exact HB.out)); rintro e w53 ⟨rfl, hi, hb, hk⟩; refine ⟨_, rfl, ?_⟩; replace BK368 := Aside0.mk (KeepBut.blk hk (g' := gb368) (o := .cells #[.int .i64 0, .slice none 0 0, .slice none 0 0] 30 (0, 0)) (by (with_reducible repeat (first | refine blk_drewN ?_ _ | refine blk_drew ?_ | refine blk_alloc ?_ _)); refine blk_far ?_ NB368_378.out _; (with_reducible repeat (first | refine blk_drewN ?_ _ | refine blk_drew ?_ | refine blk_alloc ?_ _)); refine blk_far ?_ NB368_378.out _; (with_reducible repeat (first | refine blk_drewN ?_ _ | refine blk_drew ?_ | refine blk_alloc ?_ _)); refine blk_far ?_ NB368_378.out _; (with_reducible repeat (first | refine blk_drewN ?_ _ | refine blk_drew ?_ | refine blk_alloc ?_ _)); exact BK368.out) NB368_0.out (by simp)); replace HO372 := Aside0.mk (Kd.R_mono (Kd.R_keep (IsS81.apart (show IsS81 w0 _ g s0_0 t376 t377 from i81a2_ HI0.out NB0_368.out NB0_378.out) (by (with_reducible repeat (first | apply Kd.R_alloc | apply Kd.R_drewN | apply Kd.R_drew)); exact (Kd.R_mono (Kd.R_far (p := ⟨gb378, 2, none⟩) (Kd.R_far (p := ⟨gb378, 1, none⟩) (Kd.R_far (p := ⟨gb378, 0, none⟩) (Kd.R_types HO372.out BK378.out (by decide)) (fun _ hk => hk.2) (.int .i64 t369)) (fun _ hk => hk.2) (.slice Ao51 t370.length co51)) (fun _ hk => hk.2) (.slice Ao52 t373.length co52)) (fun _ h_ => h_.1))) (by decide)) hk (fun _ h => h.2)) (fun _ h => h.1)); replace HO375 := Aside0.mk (Kd.N_mono (Kd.N_keep (Kd.N_mono (ok := fun k_ => ((((w.heap.size ≤ k_)) ∧ (some k_ ≠ (.slice Ao51 t370.length co51 : Value).ownBlock ∧ (k_ ≠ gb368 ∧ k_ ≠ g))) ∧ k_ ≠ gb378)) (by (with_reducible repeat (first | apply Kd.N_alloc | apply Kd.N_drewN | apply Kd.N_drew)); exact (Kd.N_mono (Kd.N_far (p := ⟨gb378, 2, none⟩) (Kd.N_far (p := ⟨gb378, 1, none⟩) (Kd.N_far (p := ⟨gb378, 0, none⟩) (Kd.N_mono HO375.out (fun k_ hk => (⟨hk, hk.2⟩ : _ ∧ k_ ≠ gb378))) (fun _ hk => hk.2) (.int .i64 t369)) (fun _ hk => hk.2) (.slice Ao51 t370.length co51)) (fun _ hk => hk.2) (.slice Ao52 t373.length co52)) (fun _ h_ => h_.1))) (fun k_ hk_ => (⟨hk_, hk_.1.2.2.2⟩ : _ ∧ k_ ≠ g))) hk (fun _ h => h.2)) (fun _ h => h.1)); replace BK378 := Aside0.mk (KeepBut.blk hk (g' := gb378) (o := .cells #[.int .i64 t369, .slice Ao51 t370.length co51, .slice Ao52 t373.length co52] 30 (0, 0)) (by (with_reducible repeat (first | refine blk_drewN ?_ _ | refine blk_drew ?_ | refine blk_alloc ?_ _)); refine blk_put (cs := #[.int .i64 t369, .slice Ao51 t370.length co51, .slice none 0 0]) ?_ 2 _ rfl; (with_reducible repeat (first | refine blk_drewN ?_ _ | refine blk_drew ?_ | refine blk_alloc ?_ _)); refine blk_put (cs := #[.int .i64 t369, .slice none 0 0, .slice none 0 0]) ?_ 1 _ rfl; (with_reducible repeat (first | refine blk_drewN ?_ _ | refine blk_drew ?_ | refine blk_alloc ?_ _)); refine blk_put (cs := #[.int .i64 0, .slice none 0 0, .slice none 0 0]) ?_ 0 _ rfl; (with_reducible repeat (first | refine blk_drewN ?_ _ | refine blk_drew ?_ | refine blk_alloc ?_ _)); exact BK378.out) NB378_0.out (by simp)); replace HK := Aside0.mk (KeepBut.trans (G2_ HK.out GW368.out GW378.out) hk (.inl rfl)); replace HB := Aside0.mk (hb); replace HI0 := Aside0.mk (hi); (try clear hb); (try clear hb2); (try clear hk); (try clear hi)))
     replace HO372 := Aside0.mk (Kd.R_drew HO372.out)
     replace HO375 := Aside0.mk (Kd.N_drew HO375.out)
     replace BK368 := Aside0.mk (blk_drew BK368.out)
     replace BK378 := Aside0.mk (blk_drew BK378.out)
     replace HI0 := Aside0.mk (IsS81.drew HI0.out)
     replace HK := Aside0.mk (keep_drew HK.out)
     replace HB := Aside0.mk (below_drew1 HB.out)
     refine start_ (n := 7) (S := fun w' => w'.cell? ⟨gb378, 0, none⟩ = some (.int .i64 t369) ∧ w'.cell? ⟨gb378, 1, none⟩ = some (.slice Ao51 t370.length co51) ∧ w'.cell? ⟨gb378, 2, none⟩ = some (.slice Ao52 t373.length co52)) (ds := [6]) #[false, false, false, false, false, false, false] (by kernel_rfl) rfl rfl ⟨(blk_cell BK378.out 0).trans rfl, (blk_cell BK378.out 1).trans rfl, (blk_cell BK378.out 2).trans rfl⟩ (fun hHeld => ?_)
     generalize w53.drew = w54 at HO372 HO375 BK368 BK378 HI0 HK HB hHeld ⊢
     refine pure_ (i := 0) (N := some 27) (v := ?_) (a' := ?_) #[true, false, false, false, false, false, false] rfl rfl (by kernel_rfl) (fun _ _ _ h => h) (Or.inl ⟨by rfl, ?_⟩) ?_ ?_
     rotate_left
     ·intro w'
      go_simp
      with_reducible rfl
     rotate_left
     ·simp only [Act.put, List.setIfInBounds_toArray, List.set_cons_zero, List.set_cons_succ, i64_w, i32_w]
      rfl
     refine take_ (i := 1) (N := some 28) (v := ?_) (a' := ?_) #[true, true, false, false, false, false, false] rfl rfl (by kernel_rfl) (fun _ _ _ h => h) (Or.inl ⟨by rfl, ?_⟩) hHeld ?_ ?_
     rotate_left
     ·rintro w' ⟨s0, s1, s2⟩
      go_simp
      with_reducible rfl
     rotate_left
     ·simp only [Act.put, List.setIfInBounds_toArray, List.set_cons_zero, List.set_cons_succ, i64_w, i32_w]
      rfl
     refine one_ (i := 2) (N := some 29) #[true, true, true, false, false, false, false] rfl rfl (by kernel_rfl) (by decide) (fun K hK => ?_)
     refine goes_ Try.func75 (by kernel_rfl) rfl #[] (by rfl) rfl rfl ma_ ?_
     with_reducible refine (spec_l3Int.calls  t394 t395 t398 _ A43.out).mono ?_
     rintro e w55 ⟨v396, v399, rfl, ho0, ho1, hb⟩
     refine ⟨_, rfl, ?_⟩
     have HO397 := Aside0.mk (Kd.R_lower (Kd.R_new' (Kd.R_newM (M := fun k_ => (w.heap.size ≤ k_)) ho0 (keep_size (w := w) (g := g) (row := none) (G2_ HK.out GW368.out GW378.out)) (fun k_ h_ => h_)) (Kd.R_lt (R_ HO372.out))) (keep_size (w := w) (g := g) (row := none) (G2_ HK.out GW368.out GW378.out)))
     have HO400 := Aside0.mk (Kd.N_lower (Kd.N_mono (ok' := fun k_ => (w.heap.size ≤ k_) ∧ some k_ ≠ (v396 : Value).ownBlock ∧ some k_ ≠ (.slice Ao51 t370.length co51 : Value).ownBlock ∧ some k_ ≠ (.slice Ao52 t373.length co52 : Value).ownBlock ∧ k_ ≠ gb368 ∧ k_ ≠ gb378 ∧ k_ ≠ g) (Kd.R_N (Kd.R_bound ho1)) (fun k_ hk_ => ⟨(Nat.le_trans (keep_size (w := w) (g := g) (row := none) (G2_ HK.out GW368.out GW378.out)) hk_.2.1), hk_.1, (Kd.fresh' (Kd.R_lt (R_ HO372.out)) k_ hk_.2.1), (Kd.fresh' (Kd.N_lt (N_ HO375.out)) k_ hk_.2.1), (Kd.freshB (K_ BK368.out) k_ hk_.2.1), (Kd.freshB (K_ BK378.out) k_ hk_.2.1), (IsS81.fresh (i81a2_ HI0.out NB0_368.out NB0_378.out) k_ hk_.2.1)⟩)) (keep_size (w := w) (g := g) (row := none) (G2_ HK.out GW368.out GW378.out)))
     replace HO372 := Aside0.mk (Kd.R_elder' (R_ HO372.out) (Kd.R_base ho0) hb)
     replace HO375 := Aside0.mk (Kd.N_mono (Kd.N_told (Kd.N_told (Kd.N_old (N_ HO375.out) hb) (Kd.R_base ho0)) (Kd.R_base ho1)) (fun _ h_ => h_.1))
     replace BK368 := kb_ BK368 hb
     replace BK378 := kb_ BK378 hb
     replace HK := Aside0.mk (KeepBut.trans (G2_ HK.out GW368.out GW378.out) (KeepBut.of_below hb g none) (.inl rfl))
     replace HB := Aside0.mk (below_step (B3_ HB.out (IsS81.ge HI0.out) GE368.out GE378.out) hb)
     replace HI0 := Aside0.mk (IsS81.below (i81a2_ HI0.out NB0_368.out NB0_378.out) hb)
     (try clear hb)
     (try clear hb2)
     (try clear hk)
     (try clear hi)
     (try clear ho0)
     (try clear ho1)
     obtain ⟨Ao57, co57, eo57⟩ := Kd.R_slice HO397.out
     (first | subst eo57 | (injection eo57 with f1_ f2_ f3_; have f4_ := f1_.symm; have f5_ := f3_.symm; clear f1_ f2_ f3_; subst f4_; subst f5_))
     obtain ⟨Ao58, co58, eo58⟩ := Kd.N_slice HO400.out
     (first | subst eo58 | (injection eo58 with f1_ f2_ f3_; have f4_ := f1_.symm; have f5_ := f3_.symm; clear f1_ f2_ f3_; subst f4_; subst f5_))
     refine hK.out _ _ ⟨(blk_cell BK378.out 0).trans rfl, (blk_cell BK378.out 1).trans rfl, (blk_cell BK378.out 2).trans rfl⟩ (fun hHeld => ?_)
     clear hK K
     refine nm_ (some 29) ?_
     refine one_ (i := 3) (N := some 30) #[true, true, true, true, false, false, false] rfl rfl (by kernel_rfl) (by decide) (fun K hK => ?_)
     refine value_ (w1 := ?_) (v := ?_) (by rfl) rfl ?_ ?_
     rotate_left 2
     ·go_simp
      constructor
      ·rfl
      ·rfl
     refine hK.out _ _ ⟨(blk_cell (blk_alloc BK378.out _) 0).trans rfl, (blk_cell (blk_alloc BK378.out _) 1).trans rfl, (blk_cell (blk_alloc BK378.out _) 2).trans rfl⟩ (fun hHeld => ?_)
     clear hK K
     refine nm_ (some 30) ?_
     refine one_ (i := 4) (N := some 31) #[true, true, true, true, true, false, false] rfl rfl (by kernel_rfl) (by decide) (fun K hK => ?_)
     refine Kd.N_append_step k30 w.heap.size (by rfl) (.tmp 28) (.tmp 30) 28 30 (.agg #[(.int .i64 0), (.slice none 0 0), (.slice none 0 0)]) 56 rfl Try.underlying28 info30 rfl (by decide) (by omega) (.slice Ao52 t373.length co52) t373 (⟨t394, t395, t398⟩ : S30) [.int .i64 t394, .slice Ao57 t395.length co57, .slice Ao58 t398.length co58] (fun k_ => (w.heap.size ≤ k_) ∧ some k_ ≠ (.slice Ao51 t370.length co51 : Value).ownBlock ∧ k_ ≠ gb368 ∧ k_ ≠ gb378 ∧ k_ ≠ g) (fun k_ => ((fun k_ => (w.heap.size ≤ k_) ∧ some k_ ≠ (.slice Ao51 t370.length co51 : Value).ownBlock ∧ k_ ≠ gb368 ∧ k_ ≠ gb378 ∧ k_ ≠ g)) k_ ∧ some k_ ≠ (.slice Ao52 t373.length co52 : Value).ownBlock) rfl rfl ?aP (fun _ hk => hk) ?aF ?aO (Below.refl _ _) ?aS ?aL ?_
     (case aP => exact (k30_mkF _ _ (⟨t394, t395, t398⟩ : S30) (Kd.R_reads' (Kd.R_mono (ok' := (fun k_ => ((fun k_ => (w.heap.size ≤ k_) ∧ some k_ ≠ (.slice Ao51 t370.length co51 : Value).ownBlock ∧ k_ ≠ gb368 ∧ k_ ≠ gb378 ∧ k_ ≠ g)) k_ ∧ some k_ ≠ (.slice Ao52 t373.length co52 : Value).ownBlock)) (IsS81.apart HI0.out (Kd.R_types (Kd.R_types (Kd.R_apart' (HO397.out) (Kd.N_typed HO375.out) (by decide)) BK368.out (by decide)) BK378.out (by decide)) (by decide)) (fun k_ hk => ⟨⟨hk.1.1.1.1.1.1, ⟨hk.1.1.1.1.2, ⟨hk.1.1.2, ⟨hk.1.2, hk.2⟩⟩⟩⟩, hk.1.1.1.2⟩))).2.1 (Kd.R_F (Kd.R_mono (ok' := (fun k_ => ((fun k_ => (w.heap.size ≤ k_) ∧ some k_ ≠ (.slice Ao51 t370.length co51 : Value).ownBlock ∧ k_ ≠ gb368 ∧ k_ ≠ gb378 ∧ k_ ≠ g)) k_ ∧ some k_ ≠ (.slice Ao52 t373.length co52 : Value).ownBlock)) (IsS81.apart HI0.out (Kd.R_types (Kd.R_types (Kd.R_apart' (HO397.out) (Kd.N_typed HO375.out) (by decide)) BK368.out (by decide)) BK378.out (by decide)) (by decide)) (fun k_ hk => ⟨⟨hk.1.1.1.1.1.1, ⟨hk.1.1.1.1.2, ⟨hk.1.1.2, ⟨hk.1.2, hk.2⟩⟩⟩⟩, hk.1.1.1.2⟩))) (Kd.N_reads' (Kd.N_mono (ok' := (fun k_ => ((fun k_ => (w.heap.size ≤ k_) ∧ some k_ ≠ (.slice Ao51 t370.length co51 : Value).ownBlock ∧ k_ ≠ gb368 ∧ k_ ≠ gb378 ∧ k_ ≠ g)) k_ ∧ some k_ ≠ (.slice Ao52 t373.length co52 : Value).ownBlock)) (HO400.out) (fun k_ hk => ⟨⟨hk.1, ⟨hk.2.2.1, ⟨hk.2.2.2.2.1, ⟨hk.2.2.2.2.2.1, hk.2.2.2.2.2.2⟩⟩⟩⟩, hk.2.2.2.1⟩))).2.1 (Kd.N_F (Kd.N_mono (ok' := (fun k_ => ((fun k_ => (w.heap.size ≤ k_) ∧ some k_ ≠ (.slice Ao51 t370.length co51 : Value).ownBlock ∧ k_ ≠ gb368 ∧ k_ ≠ gb378 ∧ k_ ≠ g)) k_ ∧ some k_ ≠ (.slice Ao52 t373.length co52 : Value).ownBlock)) (HO400.out) (fun k_ hk => ⟨⟨hk.1, ⟨hk.2.2.1, ⟨hk.2.2.2.2.1, ⟨hk.2.2.2.2.2.1, hk.2.2.2.2.2.2⟩⟩⟩⟩, hk.2.2.2.1⟩)))))
     (case aF => exact (fun k_ hk => ⟨(Nat.le_trans (keep_size (w := w) (g := g) (row := none) (G2_ HK.out GW368.out GW378.out)) hk), Kd.fresh' (Kd.R_lt (R_ HO372.out)) k_ hk, Kd.freshB (K_ BK368.out) k_ hk, Kd.freshB (K_ BK378.out) k_ hk, IsS81.fresh (i81a2_ HI0.out NB0_368.out NB0_378.out) k_ hk⟩))
     (case aO => exact (by (with_reducible repeat (first | apply Kd.N_alloc | apply Kd.N_drewN | apply Kd.N_drew)); exact Kd.N_mono HO375.out (fun _ hk => ⟨hk.1.1.1.1, ⟨hk.1.1.1.2.1, ⟨hk.1.1.1.2.2.1, ⟨hk.1.1.2, hk.1.1.1.2.2.2⟩⟩⟩⟩)))
     (case aS => exact (keep_size (w := w) (g := g) (row := none) (G2_ HK.out GW368.out GW378.out)))
     (case aL => have := LMc44.out; omega)
     intro v402 w56 ho hb hg hat
     rw [← Ny401.out] at ho
     replace BK368 := Aside0.mk (blk_grown (g := gb368) (o := .cells #[.int .i64 0, .slice none 0 0, .slice none 0 0] 30 (0, 0)) (K_ BK368.out) hg (Kd.N_away HO375.out (fun _ hk => hk.1.1.1.2.2.1)))
     replace HO372 := Aside0.mk (Kd.R_over' (R_ HO372.out) (Kd.N_typed (N_ HO375.out)) (by decide) hg)
     replace BK378 := Aside0.mk (blk_grown (g := gb378) (o := .cells #[.int .i64 t369, .slice Ao51 t370.length co51, .slice Ao52 t373.length co52] 30 (0, 0)) (K_ BK378.out) hg (Kd.N_away HO375.out (fun _ hk => hk.1.1.2)))
     replace HB := Aside0.mk (below_weaken (B3_ HB.out (IsS81.ge HI0.out) GE368.out GE378.out) HL.out hb)
     replace HI0 := Aside0.mk (IsS81.grown (i81a2_ HI0.out NB0_368.out NB0_378.out) hg (IsS81.own_neN HI0.out HO375.out (by decide)))
     replace HK := Aside0.mk (KeepBut.trans (G2_ HK.out GW368.out GW378.out) (KeepBut.of_grown hg g) (Kd.N_base2 HO375.out))
     have HO403 := Aside0.mk (ho)
     clear HO375 HO397 HO400
     clear ho hb hg hat
     obtain ⟨Ao59, co59, eo59⟩ := Kd.N_slice HO403.out
     (first | subst eo59 | (injection eo59 with f1_ f2_ f3_; have f4_ := f1_.symm; have f5_ := f3_.symm; clear f1_ f2_ f3_; subst f4_; subst f5_))
     refine hK.out _ _ ⟨(blk_cell BK378.out 0).trans rfl, (blk_cell BK378.out 1).trans rfl, (blk_cell BK378.out 2).trans rfl⟩ (fun hHeld => ?_)
     clear hK K
     refine nm_ (some 31) ?_
     refine pure_ (i := 5) (N := some 32) (v := ?_) (a' := ?_) #[true, true, true, true, true, true, false] rfl rfl (by kernel_rfl) (fun _ _ _ h => h) (Or.inl ⟨by rfl, ?_⟩) ?_ ?_
     rotate_left
     ·intro w'
      go_simp
      with_reducible rfl
     rotate_left
     ·simp only [Act.put, List.setIfInBounds_toArray, List.set_cons_zero, List.set_cons_succ, i64_w, i32_w]
      rfl
     refine last_ (i := 6) (N := none) #[true, true, true, true, true, true, true] rfl rfl (by kernel_rfl) (by decide) (fun K hK => ?_)
     have hs60 : w56.cell? ⟨gb378, 2, none⟩ = some (.slice Ao52 t373.length co52) := (blk_cell BK378.out 2).trans rfl
     have hfs60 := blk_frozen BK378.out 2
     have hns60_0 := NB368_378.out
     have hms60_0 := NB378_368.out
     refine skip_ (w1 := ?_) (by rfl) rfl ?_ ?_
     rotate_left
     ·go_simp
      rfl
     refine hK.out _ _ ?_
     clear hK K
     refine done_ (by kernel_rfl) ?_
     obtain ⟨hcz61_0, hcz61_1, hcz61_2, hfz61_0, hfz61_1, hfz61_2⟩ := box3_ BK378.out
     have hnb62 := NB368_0.out
     have hnc62 := NB0_368.out
     obtain ⟨hcz63_0, hcz63_1, hcz63_2, hfz63_0, hfz63_1, hfz63_2⟩ := box3_ BK368.out
     try go_wp2
     refine bodyPost_ret (results_cell_row rfl _ _ gb368 30 #[.int .i64 t369, .slice Ao51 t370.length co51, .slice Ao59 y401.length co59] (0, 0) _ rfl (by (with_reducible repeat (first | refine blk_drewN ?_ _ | refine blk_drew ?_ | refine blk_alloc ?_ _)); refine blk_put (cs := #[.int .i64 t369, .slice Ao51 t370.length co51, .slice none 0 0]) ?_ 2 _ rfl; (with_reducible repeat (first | refine blk_drewN ?_ _ | refine blk_drew ?_ | refine blk_alloc ?_ _)); refine blk_put (cs := #[.int .i64 t369, .slice none 0 0, .slice none 0 0]) ?_ 1 _ rfl; (with_reducible repeat (first | refine blk_drewN ?_ _ | refine blk_drew ?_ | refine blk_alloc ?_ _)); refine blk_put (cs := #[.int .i64 0, .slice none 0 0, .slice none 0 0]) ?_ 0 _ rfl; (with_reducible repeat (first | refine blk_drewN ?_ _ | refine blk_drew ?_ | refine blk_alloc ?_ _)); refine blk_far ?_ NB368_378.out _; (with_reducible repeat (first | refine blk_drewN ?_ _ | refine blk_drew ?_ | refine blk_alloc ?_ _)); exact BK368.out) Try.underlying30 rfl (by kernel_rfl)) rfl ?_
     exact ⟨_, _, er_, by (with_reducible repeat (first | apply Kd.R_alloc | apply Kd.R_drewN | apply Kd.R_drew)); exact Kd.R_mono (Kd.R_far (p := ⟨gb368, 2, none⟩) (Kd.R_far (p := ⟨gb368, 1, none⟩) (Kd.R_far (p := ⟨gb368, 0, none⟩) (Kd.R_far (p := ⟨gb378, 2, none⟩) (Kd.R_types (Kd.R_types HO372.out BK378.out (by decide)) BK368.out (by decide)) (fun _ hk => hk.1.2) (.slice Ao59 y401.length co59)) (fun _ hk => hk.2) (.int .i64 t369)) (fun _ hk => hk.2) (.slice Ao51 t370.length co51)) (fun _ hk => hk.2) (.slice Ao59 y401.length co59)) (fun _ hk => hk.1.1.1.1), by (with_reducible repeat (first | apply Kd.N_alloc | apply Kd.N_drewN | apply Kd.N_drew)); exact Kd.N_mono (Kd.N_far (p := ⟨gb368, 2, none⟩) (Kd.N_far (p := ⟨gb368, 1, none⟩) (Kd.N_far (p := ⟨gb368, 0, none⟩) (Kd.N_far (p := ⟨gb378, 2, none⟩) (Kd.N_mono (Kd.N_mono HO403.out (fun k_ hk => (⟨hk, hk.2.2.2.1⟩ : _ ∧ k_ ≠ gb378))) (fun k_ hk => (⟨hk, hk.1.2.2.1⟩ : _ ∧ k_ ≠ gb368))) (fun _ hk => hk.1.2) (.slice Ao59 y401.length co59)) (fun _ hk => hk.2) (.int .i64 t369)) (fun _ hk => hk.2) (.slice Ao51 t370.length co51)) (fun _ hk => hk.2) (.slice Ao59 y401.length co59)) (fun _ hk => ⟨hk.1.1.1, hk.1.1.2.1⟩), i81a2_ HI0.out NB0_368.out NB0_378.out, B3_ HB.out (IsS81.ge HI0.out) GE368.out GE378.out, G2_ HK.out GW368.out GW378.out⟩
    ·rw [if_neg c44] at H
     exact absurd H (by simp)
   ·rw [if_neg c42] at H
    have c42b0 : (t379 == 2) = false := beq_eq_false_iff_ne.mpr c42
    have c42b1 : (t379 != 2) = true := bne_iff_ne.mpr c42
    by_cases c64 : t379 = 3
    ·rw [if_pos c64] at H
     have c64b0 : (t379 == 3) = true := beq_iff_eq.mpr c64
     have c64b1 : (t379 != 3) = false := bne_eq_false_iff_eq.mpr c64
     clear c64
     replace H := Option.bind_eq_some_iff.mp H
     obtain ⟨⟨t404, t405, t406⟩, A650, H⟩ := H
     replace H : (spec_l3Bent.l0 k (wrap64 (1 + t404)) 0 s0_0 t405 t406 t369 t370 t373) = some (r1, r2, r3, r4, r5) := H
     have A65 := Aside0.mk A650
     clear A650
     have H' := Aside0.mk H
     clear H
     go_enter Try.func54, Try.ntmps54
     go_wp2_with (first | ((with_reducible refine gate_dst (N := 2) rfl ?_); refine box_event ?hg (N := 2) ?hd (cs := #[.int .i64 0, .slice none 0 0, .slice none 0 0]) (t := 30) ?hr ?_; (case hd => rfl); (case hg => rfl); (case hr => first | (go_simp; done) | (go_simp; rfl)); intro gb368 hg w66 hbox hb; replace HB := Aside0.mk (below_step (B1_ HB.out (IsS81.ge HI0.out)) hb); have BK368 := Aside0.mk (hbox); have GW368 := Aside0.mk ((by rw [hg]; exact (keep_size (w := w) (g := g) (row := none) (G0_ HK.out)) : w.heap.size ≤ gb368)); have GE368 := Aside0.mk ((Nat.le_trans HW0.out (by rw [hg]; exact (keep_size (w := w) (g := g) (row := none) (G0_ HK.out)) : w.heap.size ≤ gb368) : w0.heap.size ≤ gb368)); replace HK := Aside0.mk (KeepBut.trans (G0_ HK.out) (KeepBut.of_below hb g none) (.inl rfl)); have NB0_368 := Aside0.mk ((by rw [hg]; exact Nat.ne_of_lt (IsS81.lt (show IsS81 w0 _ g s0_0 s0_1 s0_2 from i81a0_ HI0.out)) : g ≠ gb368)); have NB368_0 := Aside0.mk ((by rw [hg]; exact Nat.ne_of_gt (IsS81.lt (show IsS81 w0 _ g s0_0 s0_1 s0_2 from i81a0_ HI0.out)) : gb368 ≠ g)); replace HI0 := Aside0.mk (IsS81.below (i81a0_ HI0.out) hb); clear hb hbox hg) | ((with_reducible refine gate_callee (f := 73) rfl ?_); refine goesL_ (some 7) rfl rfl Try.func73 (by kernel_rfl) rfl #[.pointer (some ⟨g, 0, none⟩), .int .i64 4] rfl ma_ ?_; (with_reducible refine (spec_l3Draw.calls k g s0_0 s0_1 s0_2 4 t369 t370 t373 t376 t377 w0 _ ?side1 ?side2 A2.out).mono ?_); (case side1 => repeat (first | (with_reducible first | exact HI0.out | apply IsS81.alloc | apply IsS81.drewN | apply IsS81.drew | apply IsS81.set_1 | apply IsS81.set_2 | refine IsS81.far ?_ NB0_368.out _) | exact HI0.out)); (case side2 => repeat (first | (with_reducible first | exact HB.out | apply below_alloc | apply pw_below_drewN | apply below_drew1 | refine below_set ?_ (IsS81.ge HI0.out) | refine below_set ?_ GE368.out) | exact HB.out)); rintro e w67 ⟨v371, v374, rfl, ho0, ho1, hi, hb, hk⟩; refine ⟨_, rfl, ?_⟩; have HO372 := Aside0.mk (Kd.R_lower (Kd.R_newM (M := fun k_ => (w.heap.size ≤ k_)) (Kd.R_mono (ok' := fun k_ => True) ho0 (fun _ hk_ => trivial)) (keep_size (w := w) (g := g) (row := none) (G1_ HK.out GW368.out)) (fun k_ h_ => h_)) (keep_size (w := w) (g := g) (row := none) (G1_ HK.out GW368.out))); have HO375 := Aside0.mk (Kd.N_lower (Kd.N_mono (ok' := fun k_ => (w.heap.size ≤ k_) ∧ some k_ ≠ (v371 : Value).ownBlock ∧ k_ ≠ gb368 ∧ k_ ≠ g) ho1 (fun k_ hk_ => ⟨(Nat.le_trans (keep_size (w := w) (g := g) (row := none) (G1_ HK.out GW368.out)) hk_.1), hk_.2, (Kd.freshB (K_ BK368.out) k_ hk_.1), (IsS81.fresh (i81a1_ HI0.out NB0_368.out) k_ hk_.1)⟩)) (keep_size (w := w) (g := g) (row := none) (G1_ HK.out GW368.out))); replace BK368 := Aside0.mk (KeepBut.blk hk (g' := gb368) (o := .cells #[.int .i64 0, .slice none 0 0, .slice none 0 0] 30 (0, 0)) (K_ BK368.out) NB368_0.out (by simp)); replace HK := Aside0.mk (KeepBut.trans (G1_ HK.out GW368.out) hk (.inl rfl)); replace HB := Aside0.mk (hb); replace HI0 := Aside0.mk (hi); (try clear hb); (try clear hb2); (try clear hk); (try clear hi); (try clear ho0); (try clear ho1)) | ((with_reducible refine gate_dst (N := 3) rfl ?_); refine box_event ?hg (N := 3) ?hd (cs := #[.int .i64 0, .slice none 0 0, .slice none 0 0]) (t := 30) ?hr ?_; (case hd => rfl); (case hg => rfl); (case hr => first | (go_simp; done) | (go_simp; rfl)); intro gb378 hg w68 hbox hb; replace HO372 := rb_ HO372 hb; replace HO375 := Aside0.mk (Kd.N_below (Kd.N_elderB (N_ HO375.out) gb378 (Nat.le_of_eq hg.symm)) hb); replace HB := Aside0.mk (below_step (B2_ HB.out (IsS81.ge HI0.out) GE368.out) hb); have BK378 := Aside0.mk (hbox); have GW378 := Aside0.mk ((by rw [hg]; exact (keep_size (w := w) (g := g) (row := none) (G1_ HK.out GW368.out)) : w.heap.size ≤ gb378)); have GE378 := Aside0.mk ((Nat.le_trans HW0.out (by rw [hg]; exact (keep_size (w := w) (g := g) (row := none) (G1_ HK.out GW368.out)) : w.heap.size ≤ gb378) : w0.heap.size ≤ gb378)); replace HK := Aside0.mk (KeepBut.trans (G1_ HK.out GW368.out) (KeepBut.of_below hb g none) (.inl rfl)); have NB368_378 := Aside0.mk ((by rw [hg]; exact Nat.ne_of_lt (blk_lt (K_ BK368.out)) : gb368 ≠ gb378)); have NB378_368 := Aside0.mk ((by rw [hg]; exact Nat.ne_of_gt (blk_lt (K_ BK368.out)) : gb378 ≠ gb368)); replace BK368 := kb_ BK368 hb; have NB0_378 := Aside0.mk ((by rw [hg]; exact Nat.ne_of_lt (IsS81.lt (show IsS81 w0 _ g s0_0 t376 t377 from i81a1_ HI0.out NB0_368.out)) : g ≠ gb378)); have NB378_0 := Aside0.mk ((by rw [hg]; exact Nat.ne_of_gt (IsS81.lt (show IsS81 w0 _ g s0_0 t376 t377 from i81a1_ HI0.out NB0_368.out)) : gb378 ≠ g)); replace HI0 := Aside0.mk (IsS81.below (i81a1_ HI0.out NB0_368.out) hb); clear hb hbox hg; have hnb69 := NB378_368.out; have hnc69 := NB368_378.out; have hnb70 := NB378_0.out; have hnc70 := NB0_378.out; obtain ⟨hcz71_0, hcz71_1, hcz71_2, hfz71_0, hfz71_1, hfz71_2⟩ := box3_ BK378.out; obtain ⟨Ao72, co72, eo72⟩ := Kd.R_slice HO372.out; subst eo72; obtain ⟨Ao73, co73, eo73⟩ := Kd.N_slice HO375.out; subst eo73) | ((with_reducible refine gate_callee (f := 74) rfl ?_); refine goesL_ (some 9) rfl rfl Try.func74 (by kernel_rfl) rfl #[.pointer (some ⟨g, 0, none⟩), .int .i64 10] rfl ma_ ?_; (with_reducible refine (spec_l1Below.calls g s0_0 t376 t377 10 t379 t380 t381 w0 _ ?side1 ?side2 A3.out).mono ?_); (case side1 => repeat (first | (with_reducible first | exact HI0.out | apply IsS81.alloc | apply IsS81.drewN | apply IsS81.drew | apply IsS81.set_1 | apply IsS81.set_2 | refine IsS81.far ?_ NB0_368.out _ | refine IsS81.far ?_ NB0_378.out _) | exact HI0.out)); (case side2 => repeat (first | (with_reducible first | exact HB.out | apply below_alloc | apply pw_below_drewN | apply below_drew1 | refine below_set ?_ (IsS81.ge HI0.out) | refine below_set ?_ GE368.out | refine below_set ?_ GE378.out) | exact HB.out)); rintro e w74 ⟨rfl, hi, hb, hk⟩; refine ⟨_, rfl, ?_⟩; replace BK368 := Aside0.mk (KeepBut.blk hk (g' := gb368) (o := .cells #[.int .i64 0, .slice none 0 0, .slice none 0 0] 30 (0, 0)) (by (with_reducible repeat (first | refine blk_drewN ?_ _ | refine blk_drew ?_ | refine blk_alloc ?_ _)); refine blk_far ?_ NB368_378.out _; (with_reducible repeat (first | refine blk_drewN ?_ _ | refine blk_drew ?_ | refine blk_alloc ?_ _)); refine blk_far ?_ NB368_378.out _; (with_reducible repeat (first | refine blk_drewN ?_ _ | refine blk_drew ?_ | refine blk_alloc ?_ _)); refine blk_far ?_ NB368_378.out _; (with_reducible repeat (first | refine blk_drewN ?_ _ | refine blk_drew ?_ | refine blk_alloc ?_ _)); exact BK368.out) NB368_0.out (by simp)); replace HO372 := Aside0.mk (Kd.R_mono (Kd.R_keep (IsS81.apart (show IsS81 w0 _ g s0_0 t376 t377 from i81a2_ HI0.out NB0_368.out NB0_378.out) (by (with_reducible repeat (first | apply Kd.R_alloc | apply Kd.R_drewN | apply Kd.R_drew)); exact (Kd.R_mono (Kd.R_far (p := ⟨gb378, 2, none⟩) (Kd.R_far (p := ⟨gb378, 1, none⟩) (Kd.R_far (p := ⟨gb378, 0, none⟩) (Kd.R_types HO372.out BK378.out (by decide)) (fun _ hk => hk.2) (.int .i64 t369)) (fun _ hk => hk.2) (.slice Ao72 t370.length co72)) (fun _ hk => hk.2) (.slice Ao73 t373.length co73)) (fun _ h_ => h_.1))) (by decide)) hk (fun _ h => h.2)) (fun _ h => h.1)); replace HO375 := Aside0.mk (Kd.N_mono (Kd.N_keep (Kd.N_mono (ok := fun k_ => ((((w.heap.size ≤ k_)) ∧ (some k_ ≠ (.slice Ao72 t370.length co72 : Value).ownBlock ∧ (k_ ≠ gb368 ∧ k_ ≠ g))) ∧ k_ ≠ gb378)) (by (with_reducible repeat (first | apply Kd.N_alloc | apply Kd.N_drewN | apply Kd.N_drew)); exact (Kd.N_mono (Kd.N_far (p := ⟨gb378, 2, none⟩) (Kd.N_far (p := ⟨gb378, 1, none⟩) (Kd.N_far (p := ⟨gb378, 0, none⟩) (Kd.N_mono HO375.out (fun k_ hk => (⟨hk, hk.2⟩ : _ ∧ k_ ≠ gb378))) (fun _ hk => hk.2) (.int .i64 t369)) (fun _ hk => hk.2) (.slice Ao72 t370.length co72)) (fun _ hk => hk.2) (.slice Ao73 t373.length co73)) (fun _ h_ => h_.1))) (fun k_ hk_ => (⟨hk_, hk_.1.2.2.2⟩ : _ ∧ k_ ≠ g))) hk (fun _ h => h.2)) (fun _ h => h.1)); replace BK378 := Aside0.mk (KeepBut.blk hk (g' := gb378) (o := .cells #[.int .i64 t369, .slice Ao72 t370.length co72, .slice Ao73 t373.length co73] 30 (0, 0)) (by (with_reducible repeat (first | refine blk_drewN ?_ _ | refine blk_drew ?_ | refine blk_alloc ?_ _)); refine blk_put (cs := #[.int .i64 t369, .slice Ao72 t370.length co72, .slice none 0 0]) ?_ 2 _ rfl; (with_reducible repeat (first | refine blk_drewN ?_ _ | refine blk_drew ?_ | refine blk_alloc ?_ _)); refine blk_put (cs := #[.int .i64 t369, .slice none 0 0, .slice none 0 0]) ?_ 1 _ rfl; (with_reducible repeat (first | refine blk_drewN ?_ _ | refine blk_drew ?_ | refine blk_alloc ?_ _)); refine blk_put (cs := #[.int .i64 0, .slice none 0 0, .slice none 0 0]) ?_ 0 _ rfl; (with_reducible repeat (first | refine blk_drewN ?_ _ | refine blk_drew ?_ | refine blk_alloc ?_ _)); exact BK378.out) NB378_0.out (by simp)); replace HK := Aside0.mk (KeepBut.trans (G2_ HK.out GW368.out GW378.out) hk (.inl rfl)); replace HB := Aside0.mk (hb); replace HI0 := Aside0.mk (hi); (try clear hb); (try clear hb2); (try clear hk); (try clear hi)) | ((with_reducible refine gate_callee (f := 74) rfl ?_); refine goesL_ (some 36) rfl rfl Try.func74 (by kernel_rfl) rfl #[.pointer (some ⟨g, 0, none⟩), .int .i64 6] rfl ma_ ?_; (with_reducible refine (spec_l1Below.calls g s0_0 t380 t381 6 t404 t405 t406 w0 _ ?side1 ?side2 A65.out).mono ?_); (case side1 => repeat (first | (with_reducible first | exact HI0.out | apply IsS81.alloc | apply IsS81.drewN | apply IsS81.drew | apply IsS81.set_1 | apply IsS81.set_2 | refine IsS81.far ?_ NB0_368.out _ | refine IsS81.far ?_ NB0_378.out _) | exact HI0.out)); (case side2 => repeat (first | (with_reducible first | exact HB.out | apply below_alloc | apply pw_below_drewN | apply below_drew1 | refine below_set ?_ (IsS81.ge HI0.out) | refine below_set ?_ GE368.out | refine below_set ?_ GE378.out) | exact HB.out)); rintro e w75 ⟨rfl, hi, hb, hk⟩; refine ⟨_, rfl, ?_⟩; replace BK368 := Aside0.mk (KeepBut.blk hk (g' := gb368) (o := .cells #[.int .i64 0, .slice none 0 0, .slice none 0 0] 30 (0, 0)) (K_ BK368.out) NB368_0.out (by simp)); replace HO372 := Aside0.mk (Kd.R_mono (Kd.R_keep (IsS81.apart (show IsS81 w0 _ g s0_0 t380 t381 from i81a2_ HI0.out NB0_368.out NB0_378.out) (R_ HO372.out) (by decide)) hk (fun _ h => h.2)) (fun _ h => h.1)); replace HO375 := Aside0.mk (Kd.N_mono (Kd.N_keep (Kd.N_mono (ok := fun k_ => ((((w.heap.size ≤ k_)) ∧ (some k_ ≠ (.slice Ao72 t370.length co72 : Value).ownBlock ∧ (k_ ≠ gb368 ∧ k_ ≠ g))) ∧ k_ ≠ gb378)) (N_ HO375.out) (fun k_ hk_ => (⟨hk_, hk_.1.2.2.2⟩ : _ ∧ k_ ≠ g))) hk (fun _ h => h.2)) (fun _ h => h.1)); replace BK378 := Aside0.mk (KeepBut.blk hk (g' := gb378) (o := .cells #[.int .i64 t369, .slice Ao72 t370.length co72, .slice Ao73 t373.length co73] 30 (0, 0)) (K_ BK378.out) NB378_0.out (by simp)); replace HK := Aside0.mk (KeepBut.trans (G2_ HK.out GW368.out GW378.out) hk (.inl rfl)); replace HB := Aside0.mk (hb); replace HI0 := Aside0.mk (hi); (try clear hb); (try clear hb2); (try clear hk); (try clear hi)))
     go_loopg [5] k (fun kq v5 w' => ∃ (x5_1 : Int) (x379000_1 : Int) (x379001_1 : List ByteArray) (x379002_1 : List (S30)) (u379001 : Value) (u379002 : Value), v5 = .int .i64 x5_1 ∧ Aside0 (spec_l3Bent.l0 kq (wrap64 (1 + t404)) x5_1 s0_0 t405 t406 x379000_1 x379001_1 x379002_1 = some (r1, r2, r3, r4, r5)) ∧ Aside0 (kq ≤ k) ∧ Aside0 (Kd.R Kd.string 9 w' w.heap.size (fun k_ => (w.heap.size ≤ k_)) u379001 x379001_1) ∧ Aside0 (Kd.N k30 30 w' w.heap.size (fun k_ => (w.heap.size ≤ k_) ∧ some k_ ≠ (u379001 : Value).ownBlock ∧ k_ ≠ gb368 ∧ k_ ≠ gb378 ∧ k_ ≠ g) u379002 x379002_1) ∧ Aside0 (w'.heap[gb368]? = some (.cells #[.int .i64 0, (.slice none 0 0), (.slice none 0 0)] 30 (0, 0))) ∧ Aside0 (w'.heap[gb378]? = some (.cells #[.int .i64 x379000_1, u379001, u379002] 30 (0, 0))) ∧ Aside0 (IsS81 w0 w' g s0_0 t405 t406) ∧ Aside0 (KeepBut w w' g none) ∧ Aside0 (Below w0.heap.size w0 w'))
     case atStart => exact ⟨(0), (t369), (t370), (t373), (.slice Ao72 t370.length co72), (.slice Ao73 t373.length co73), q_, H', ⟨Nat.le_refl _⟩, ⟨by (with_reducible repeat (first | apply Kd.R_alloc | apply Kd.R_drewN | apply Kd.R_drew)); exact Kd.R_mono HO372.out (fun _ hk => hk.1)⟩, ⟨by (with_reducible repeat (first | apply Kd.N_alloc | apply Kd.N_drewN | apply Kd.N_drew)); exact Kd.N_mono HO375.out (fun _ hk => ⟨hk.1.1, ⟨hk.1.2.1, ⟨hk.1.2.2.1, ⟨hk.2, hk.1.2.2.2⟩⟩⟩⟩)⟩, ⟨K_ BK368.out⟩, ⟨K_ BK378.out⟩, ⟨i81a2_ HI0.out NB0_368.out NB0_378.out⟩, ⟨G2_ HK.out GW368.out GW378.out⟩, ⟨B3_ HB.out (IsS81.ge HI0.out) GE368.out GE378.out⟩⟩
     case round =>
      clear H'
      try clear c4
      try clear c4b0
      try clear c4b1
      try clear c19
      try clear c19b0
      try clear c19b1
      try clear c42
      try clear c42b0
      try clear c42b1
      try clear c64
      try clear c64b0
      try clear c64b1
      try clear hcz71_0
      try clear hcz71_1
      try clear hcz71_2
      try clear hfz71_0
      try clear hfz71_1
      try clear hfz71_2
      obtain ⟨x5_1, x379000_1, x379001_1, x379002_1, u379001, u379002, rfl, HA, HK1, HO_379001, HO_379002, BK368, BK378, HI0, HK, HB⟩ := hrel
      cases gk with
      | zero => exact absurd HA.out (by simp [spec_l3Bent.l0])
      | succ k1 =>
       have H := HA.out
       clear HA
       simp only [spec_l3Bent.l0] at H
       by_cases c76 : x5_1 < (wrap64 (1 + t404))
       ·rw [if_pos c76] at H
        have c76b0 : decide (x5_1 < (wrap64 (1 + t404))) = true := decide_eq_true c76
        clear c76
        replace H := Option.bind_eq_some_iff.mp H
        obtain ⟨⟨t407, t408, t411⟩, A770, H⟩ := H
        replace H : (spec_l3Bent.l0 k1 (wrap64 (1 + t404)) (wrap64 (x5_1 + 1)) s0_0 t405 t406 t407 t408 t411) = some (r1, r2, r3, r4, r5) := H
        have A77 := Aside0.mk A770
        clear A770
        have H' := Aside0.mk H
        clear H
        have hnb78 := NB378_368.out
        have hnc78 := NB368_378.out
        have hnb79 := NB378_0.out
        have hnc79 := NB0_378.out
        obtain ⟨hcz80_0, hcz80_1, hcz80_2, hfz80_0, hfz80_1, hfz80_2⟩ := box3_ BK378.out
        obtain ⟨Ao81, co81, eo81⟩ := Kd.R_slice HO_379001.out
        subst eo81
        obtain ⟨Ao82, co82, eo82⟩ := Kd.N_slice HO_379002.out
        subst eo82
        go_wp2_with (first | ((with_reducible refine gate_callee (f := 76) rfl ?_); refine goesL_ (some 44) rfl rfl Try.func76 (by kernel_rfl) rfl #[.agg #[.int .i64 x379000_1, .slice Ao81 x379001_1.length co81, .slice Ao82 x379002_1.length co82]] rfl ma_ ?_; (with_reducible refine (spec_l3List.calls k1 x379000_1 _ _ x379001_1 _ _ x379002_1 t407 t408 t411 _ ?side1 ?side2 ?side3 ?side4 A77.out).mono ?_); (case side1 => exact crb_ HO_379001); (case side2 => exact lrb_ HO_379001); (case side3 => exact cnb_ HO_379002); (case side4 => exact lnb_ HO_379002); rintro e w83 ⟨v409, v412, rfl, ho0, ho1, hb⟩; refine ⟨_, rfl, ?_⟩; have HO410 := Aside0.mk (Kd.R_lower (Kd.R_new' (Kd.R_newM (M := fun k_ => (w.heap.size ≤ k_)) (Kd.R_mono (ok' := fun k_ => True) ho0 (fun _ hk_ => trivial)) (keep_size (w := w) (g := g) (row := none) (G2_ HK.out GW368.out GW378.out)) (fun k_ h_ => h_)) (Kd.R_lt (R_ HO_379001.out))) (keep_size (w := w) (g := g) (row := none) (G2_ HK.out GW368.out GW378.out))); have HO413 := Aside0.mk (Kd.N_lower (Kd.N_mono (ok' := fun k_ => (w.heap.size ≤ k_) ∧ some k_ ≠ (v409 : Value).ownBlock ∧ some k_ ≠ (.slice Ao81 x379001_1.length co81 : Value).ownBlock ∧ some k_ ≠ (.slice Ao82 x379002_1.length co82 : Value).ownBlock ∧ k_ ≠ gb368 ∧ k_ ≠ gb378 ∧ k_ ≠ g) ho1 (fun k_ hk_ => ⟨(Nat.le_trans (keep_size (w := w) (g := g) (row := none) (G2_ HK.out GW368.out GW378.out)) hk_.1), hk_.2, (Kd.fresh' (Kd.R_lt (R_ HO_379001.out)) k_ hk_.1), (Kd.fresh' (Kd.N_lt (N_ HO_379002.out)) k_ hk_.1), (Kd.freshB (K_ BK368.out) k_ hk_.1), (Kd.freshB (K_ BK378.out) k_ hk_.1), (IsS81.fresh (i81a2_ HI0.out NB0_368.out NB0_378.out) k_ hk_.1)⟩)) (keep_size (w := w) (g := g) (row := none) (G2_ HK.out GW368.out GW378.out))); replace HO_379001 := Aside0.mk (Kd.R_elder' (R_ HO_379001.out) (Kd.R_base ho0) hb); replace HO_379002 := Aside0.mk (Kd.N_mono (Kd.N_told (Kd.N_told (Kd.N_old (N_ HO_379002.out) hb) (Kd.R_base ho0)) (Kd.N_base ho1)) (fun _ h_ => h_.1)); replace BK368 := kb_ BK368 hb; replace BK378 := kb_ BK378 hb; replace HK := Aside0.mk (KeepBut.trans (G2_ HK.out GW368.out GW378.out) (KeepBut.of_below hb g none) (.inl rfl)); replace HB := Aside0.mk (below_step (B3_ HB.out (IsS81.ge HI0.out) GE368.out GE378.out) hb); replace HI0 := Aside0.mk (IsS81.below (i81a2_ HI0.out NB0_368.out NB0_378.out) hb); (try clear hb); (try clear hb2); (try clear hk); (try clear hi); (try clear ho0); (try clear ho1); obtain ⟨hcz84_0, hcz84_1, hcz84_2, hfz84_0, hfz84_1, hfz84_2⟩ := box3_ BK378.out; obtain ⟨Ao85, co85, eo85⟩ := Kd.R_slice HO410.out; subst eo85; obtain ⟨Ao86, co86, eo86⟩ := Kd.N_slice HO413.out; subst eo86))
        go_roundg k1
        case measure => have := HK1.out; omega
        case rel => exact ⟨(wrap64 (x5_1 + 1)), (t407), (t408), (t411), (.slice Ao85 t408.length co85), (.slice Ao86 t411.length co86), q_, H', ⟨by have := HK1.out; omega⟩, ⟨by (with_reducible repeat (first | apply Kd.R_alloc | apply Kd.R_drewN | apply Kd.R_drew)); exact Kd.R_mono (Kd.R_far (p := ⟨gb378, 2, none⟩) (Kd.R_far (p := ⟨gb378, 1, none⟩) (Kd.R_far (p := ⟨gb378, 0, none⟩) (Kd.R_types HO410.out BK378.out (by decide)) (fun _ hk => hk.2) (.int .i64 t407)) (fun _ hk => hk.2) (.slice Ao85 t408.length co85)) (fun _ hk => hk.2) (.slice Ao86 t411.length co86)) (fun _ hk => hk.1.1.1)⟩, ⟨by (with_reducible repeat (first | apply Kd.N_alloc | apply Kd.N_drewN | apply Kd.N_drew)); exact Kd.N_mono (Kd.N_far (p := ⟨gb378, 2, none⟩) (Kd.N_far (p := ⟨gb378, 1, none⟩) (Kd.N_far (p := ⟨gb378, 0, none⟩) (Kd.N_mono HO413.out (fun k_ hk => (⟨hk, hk.2.2.2.2.2.1⟩ : _ ∧ k_ ≠ gb378))) (fun _ hk => hk.2) (.int .i64 t407)) (fun _ hk => hk.2) (.slice Ao85 t408.length co85)) (fun _ hk => hk.2) (.slice Ao86 t411.length co86)) (fun _ hk => ⟨hk.1.1, ⟨hk.1.2.1, ⟨hk.1.2.2.2.2.1, ⟨hk.1.2.2.2.2.2.1, hk.1.2.2.2.2.2.2⟩⟩⟩⟩)⟩, ⟨by (with_reducible repeat (first | refine blk_drewN ?_ _ | refine blk_drew ?_ | refine blk_alloc ?_ _)); refine blk_far ?_ NB368_378.out _; (with_reducible repeat (first | refine blk_drewN ?_ _ | refine blk_drew ?_ | refine blk_alloc ?_ _)); refine blk_far ?_ NB368_378.out _; (with_reducible repeat (first | refine blk_drewN ?_ _ | refine blk_drew ?_ | refine blk_alloc ?_ _)); refine blk_far ?_ NB368_378.out _; (with_reducible repeat (first | refine blk_drewN ?_ _ | refine blk_drew ?_ | refine blk_alloc ?_ _)); exact BK368.out⟩, ⟨by (with_reducible repeat (first | refine blk_drewN ?_ _ | refine blk_drew ?_ | refine blk_alloc ?_ _)); refine blk_put (cs := #[.int .i64 t407, .slice Ao85 t408.length co85, .slice Ao82 x379002_1.length co82]) ?_ 2 _ rfl; (with_reducible repeat (first | refine blk_drewN ?_ _ | refine blk_drew ?_ | refine blk_alloc ?_ _)); refine blk_put (cs := #[.int .i64 t407, .slice Ao81 x379001_1.length co81, .slice Ao82 x379002_1.length co82]) ?_ 1 _ rfl; (with_reducible repeat (first | refine blk_drewN ?_ _ | refine blk_drew ?_ | refine blk_alloc ?_ _)); refine blk_put (cs := #[.int .i64 x379000_1, .slice Ao81 x379001_1.length co81, .slice Ao82 x379002_1.length co82]) ?_ 0 _ rfl; (with_reducible repeat (first | refine blk_drewN ?_ _ | refine blk_drew ?_ | refine blk_alloc ?_ _)); exact BK378.out⟩, ⟨i81a2_ HI0.out NB0_368.out NB0_378.out⟩, ⟨G2_ HK.out GW368.out GW378.out⟩, ⟨B3_ HB.out (IsS81.ge HI0.out) GE368.out GE378.out⟩⟩
       ·rw [if_neg c76] at H
        have c76b0 : decide (x5_1 < (wrap64 (1 + t404))) = false := decide_eq_false c76
        clear c76
        simp only [Option.some.injEq, Prod.mk.injEq] at H
        obtain ⟨rfl, rfl, rfl, rfl, rfl⟩ := H
        have hnb87 := NB378_368.out
        have hnc87 := NB368_378.out
        have hnb88 := NB378_0.out
        have hnc88 := NB0_378.out
        obtain ⟨hcz89_0, hcz89_1, hcz89_2, hfz89_0, hfz89_1, hfz89_2⟩ := box3_ BK378.out
        have hnb90 := NB368_0.out
        have hnc90 := NB0_368.out
        obtain ⟨hcz91_0, hcz91_1, hcz91_2, hfz91_0, hfz91_1, hfz91_2⟩ := box3_ BK368.out
        obtain ⟨Ao92, co92, eo92⟩ := Kd.R_slice HO_379001.out
        subst eo92
        obtain ⟨Ao93, co93, eo93⟩ := Kd.N_slice HO_379002.out
        subst eo93
        go_wp2
        refine bodyPost_ret (results_cell_row rfl _ _ gb368 30 #[.int .i64 x379000_1, .slice Ao92 x379001_1.length co92, .slice Ao93 x379002_1.length co93] (0, 0) _ rfl (by (with_reducible repeat (first | refine blk_drewN ?_ _ | refine blk_drew ?_ | refine blk_alloc ?_ _)); refine blk_put (cs := #[.int .i64 x379000_1, .slice Ao92 x379001_1.length co92, .slice none 0 0]) ?_ 2 _ rfl; (with_reducible repeat (first | refine blk_drewN ?_ _ | refine blk_drew ?_ | refine blk_alloc ?_ _)); refine blk_put (cs := #[.int .i64 x379000_1, .slice none 0 0, .slice none 0 0]) ?_ 1 _ rfl; (with_reducible repeat (first | refine blk_drewN ?_ _ | refine blk_drew ?_ | refine blk_alloc ?_ _)); refine blk_put (cs := #[.int .i64 0, .slice none 0 0, .slice none 0 0]) ?_ 0 _ rfl; (with_reducible repeat (first | refine blk_drewN ?_ _ | refine blk_drew ?_ | refine blk_alloc ?_ _)); exact BK368.out) Try.underlying30 rfl (by kernel_rfl)) rfl ?_
        exact ⟨_, _, er_, by (with_reducible repeat (first | apply Kd.R_alloc | apply Kd.R_drewN | apply Kd.R_drew)); exact Kd.R_mono (Kd.R_far (p := ⟨gb368, 2, none⟩) (Kd.R_far (p := ⟨gb368, 1, none⟩) (Kd.R_far (p := ⟨gb368, 0, none⟩) (Kd.R_types HO_379001.out BK368.out (by decide)) (fun _ hk => hk.2) (.int .i64 x379000_1)) (fun _ hk => hk.2) (.slice Ao92 x379001_1.length co92)) (fun _ hk => hk.2) (.slice Ao93 x379002_1.length co93)) (fun _ hk => hk.1), by (with_reducible repeat (first | apply Kd.N_alloc | apply Kd.N_drewN | apply Kd.N_drew)); exact Kd.N_mono (Kd.N_far (p := ⟨gb368, 2, none⟩) (Kd.N_far (p := ⟨gb368, 1, none⟩) (Kd.N_far (p := ⟨gb368, 0, none⟩) (Kd.N_mono HO_379002.out (fun k_ hk => (⟨hk, hk.2.2.1⟩ : _ ∧ k_ ≠ gb368))) (fun _ hk => hk.2) (.int .i64 x379000_1)) (fun _ hk => hk.2) (.slice Ao92 x379001_1.length co92)) (fun _ hk => hk.2) (.slice Ao93 x379002_1.length co93)) (fun _ hk => ⟨hk.1.1, hk.1.2.1⟩), i81a2_ HI0.out NB0_368.out NB0_378.out, B3_ HB.out (IsS81.ge HI0.out) GE368.out GE378.out, G2_ HK.out GW368.out GW378.out⟩
    ·rw [if_neg c64] at H
     have c64b0 : (t379 == 3) = false := beq_eq_false_iff_ne.mpr c64
     have c64b1 : (t379 != 3) = true := bne_iff_ne.mpr c64
     simp only [Option.some.injEq, Prod.mk.injEq] at H
     obtain ⟨rfl, rfl, rfl, rfl, rfl⟩ := H
     go_enter Try.func54, Try.ntmps54
     go_wp2_with (first | ((with_reducible refine gate_dst (N := 2) rfl ?_); refine box_event ?hg (N := 2) ?hd (cs := #[.int .i64 0, .slice none 0 0, .slice none 0 0]) (t := 30) ?hr ?_; (case hd => rfl); (case hg => rfl); (case hr => first | (go_simp; done) | (go_simp; rfl)); intro gb368 hg w94 hbox hb; replace HB := Aside0.mk (below_step (B1_ HB.out (IsS81.ge HI0.out)) hb); have BK368 := Aside0.mk (hbox); have GW368 := Aside0.mk ((by rw [hg]; exact (keep_size (w := w) (g := g) (row := none) (G0_ HK.out)) : w.heap.size ≤ gb368)); have GE368 := Aside0.mk ((Nat.le_trans HW0.out (by rw [hg]; exact (keep_size (w := w) (g := g) (row := none) (G0_ HK.out)) : w.heap.size ≤ gb368) : w0.heap.size ≤ gb368)); replace HK := Aside0.mk (KeepBut.trans (G0_ HK.out) (KeepBut.of_below hb g none) (.inl rfl)); have NB0_368 := Aside0.mk ((by rw [hg]; exact Nat.ne_of_lt (IsS81.lt (show IsS81 w0 _ g s0_0 s0_1 s0_2 from i81a0_ HI0.out)) : g ≠ gb368)); have NB368_0 := Aside0.mk ((by rw [hg]; exact Nat.ne_of_gt (IsS81.lt (show IsS81 w0 _ g s0_0 s0_1 s0_2 from i81a0_ HI0.out)) : gb368 ≠ g)); replace HI0 := Aside0.mk (IsS81.below (i81a0_ HI0.out) hb); clear hb hbox hg) | ((with_reducible refine gate_callee (f := 73) rfl ?_); refine goesL_ (some 7) rfl rfl Try.func73 (by kernel_rfl) rfl #[.pointer (some ⟨g, 0, none⟩), .int .i64 4] rfl ma_ ?_; (with_reducible refine (spec_l3Draw.calls k g s0_0 s0_1 s0_2 4 t369 t370 t373 t376 t377 w0 _ ?side1 ?side2 A2.out).mono ?_); (case side1 => repeat (first | (with_reducible first | exact HI0.out | apply IsS81.alloc | apply IsS81.drewN | apply IsS81.drew | apply IsS81.set_1 | apply IsS81.set_2 | refine IsS81.far ?_ NB0_368.out _) | exact HI0.out)); (case side2 => repeat (first | (with_reducible first | exact HB.out | apply below_alloc | apply pw_below_drewN | apply below_drew1 | refine below_set ?_ (IsS81.ge HI0.out) | refine below_set ?_ GE368.out) | exact HB.out)); rintro e w95 ⟨v371, v374, rfl, ho0, ho1, hi, hb, hk⟩; refine ⟨_, rfl, ?_⟩; have HO372 := Aside0.mk (Kd.R_lower (Kd.R_newM (M := fun k_ => (w.heap.size ≤ k_)) (Kd.R_mono (ok' := fun k_ => True) ho0 (fun _ hk_ => trivial)) (keep_size (w := w) (g := g) (row := none) (G1_ HK.out GW368.out)) (fun k_ h_ => h_)) (keep_size (w := w) (g := g) (row := none) (G1_ HK.out GW368.out))); have HO375 := Aside0.mk (Kd.N_lower (Kd.N_mono (ok' := fun k_ => (w.heap.size ≤ k_) ∧ some k_ ≠ (v371 : Value).ownBlock ∧ k_ ≠ gb368 ∧ k_ ≠ g) ho1 (fun k_ hk_ => ⟨(Nat.le_trans (keep_size (w := w) (g := g) (row := none) (G1_ HK.out GW368.out)) hk_.1), hk_.2, (Kd.freshB (K_ BK368.out) k_ hk_.1), (IsS81.fresh (i81a1_ HI0.out NB0_368.out) k_ hk_.1)⟩)) (keep_size (w := w) (g := g) (row := none) (G1_ HK.out GW368.out))); replace BK368 := Aside0.mk (KeepBut.blk hk (g' := gb368) (o := .cells #[.int .i64 0, .slice none 0 0, .slice none 0 0] 30 (0, 0)) (K_ BK368.out) NB368_0.out (by simp)); replace HK := Aside0.mk (KeepBut.trans (G1_ HK.out GW368.out) hk (.inl rfl)); replace HB := Aside0.mk (hb); replace HI0 := Aside0.mk (hi); (try clear hb); (try clear hb2); (try clear hk); (try clear hi); (try clear ho0); (try clear ho1)) | ((with_reducible refine gate_dst (N := 3) rfl ?_); refine box_event ?hg (N := 3) ?hd (cs := #[.int .i64 0, .slice none 0 0, .slice none 0 0]) (t := 30) ?hr ?_; (case hd => rfl); (case hg => rfl); (case hr => first | (go_simp; done) | (go_simp; rfl)); intro gb378 hg w96 hbox hb; replace HO372 := rb_ HO372 hb; replace HO375 := Aside0.mk (Kd.N_below (Kd.N_elderB (N_ HO375.out) gb378 (Nat.le_of_eq hg.symm)) hb); replace HB := Aside0.mk (below_step (B2_ HB.out (IsS81.ge HI0.out) GE368.out) hb); have BK378 := Aside0.mk (hbox); have GW378 := Aside0.mk ((by rw [hg]; exact (keep_size (w := w) (g := g) (row := none) (G1_ HK.out GW368.out)) : w.heap.size ≤ gb378)); have GE378 := Aside0.mk ((Nat.le_trans HW0.out (by rw [hg]; exact (keep_size (w := w) (g := g) (row := none) (G1_ HK.out GW368.out)) : w.heap.size ≤ gb378) : w0.heap.size ≤ gb378)); replace HK := Aside0.mk (KeepBut.trans (G1_ HK.out GW368.out) (KeepBut.of_below hb g none) (.inl rfl)); have NB368_378 := Aside0.mk ((by rw [hg]; exact Nat.ne_of_lt (blk_lt (K_ BK368.out)) : gb368 ≠ gb378)); have NB378_368 := Aside0.mk ((by rw [hg]; exact Nat.ne_of_gt (blk_lt (K_ BK368.out)) : gb378 ≠ gb368)); replace BK368 := kb_ BK368 hb; have NB0_378 := Aside0.mk ((by rw [hg]; exact Nat.ne_of_lt (IsS81.lt (show IsS81 w0 _ g s0_0 t376 t377 from i81a1_ HI0.out NB0_368.out)) : g ≠ gb378)); have NB378_0 := Aside0.mk ((by rw [hg]; exact Nat.ne_of_gt (IsS81.lt (show IsS81 w0 _ g s0_0 t376 t377 from i81a1_ HI0.out NB0_368.out)) : gb378 ≠ g)); replace HI0 := Aside0.mk (IsS81.below (i81a1_ HI0.out NB0_368.out) hb); clear hb hbox hg; have hnb97 := NB378_368.out; have hnc97 := NB368_378.out; have hnb98 := NB378_0.out; have hnc98 := NB0_378.out; obtain ⟨hcz99_0, hcz99_1, hcz99_2, hfz99_0, hfz99_1, hfz99_2⟩ := box3_ BK378.out; obtain ⟨Ao100, co100, eo100⟩ := Kd.R_slice HO372.out; subst eo100; obtain ⟨Ao101, co101, eo101⟩ := Kd.N_slice HO375.out; subst eo101) | ((with_reducible refine gate_callee (f := 74) rfl ?_); refine goesL_ (some 9) rfl rfl Try.func74 (by kernel_rfl) rfl #[.pointer (some ⟨g, 0, none⟩), .int .i64 10] rfl ma_ ?_; (with_reducible refine (spec_l1Below.calls g s0_0 t376 t377 10 t379 t380 t381 w0 _ ?side1 ?side2 A3.out).mono ?_); (case side1 => repeat (first | (with_reducible first | exact HI0.out | apply IsS81.alloc | apply IsS81.drewN | apply IsS81.drew | apply IsS81.set_1 | apply IsS81.set_2 | refine IsS81.far ?_ NB0_368.out _ | refine IsS81.far ?_ NB0_378.out _) | exact HI0.out)); (case side2 => repeat (first | (with_reducible first | exact HB.out | apply below_alloc | apply pw_below_drewN | apply below_drew1 | refine below_set ?_ (IsS81.ge HI0.out) | refine below_set ?_ GE368.out | refine below_set ?_ GE378.out) | exact HB.out)); rintro e w102 ⟨rfl, hi, hb, hk⟩; refine ⟨_, rfl, ?_⟩; replace BK368 := Aside0.mk (KeepBut.blk hk (g' := gb368) (o := .cells #[.int .i64 0, .slice none 0 0, .slice none 0 0] 30 (0, 0)) (by (with_reducible repeat (first | refine blk_drewN ?_ _ | refine blk_drew ?_ | refine blk_alloc ?_ _)); refine blk_far ?_ NB368_378.out _; (with_reducible repeat (first | refine blk_drewN ?_ _ | refine blk_drew ?_ | refine blk_alloc ?_ _)); refine blk_far ?_ NB368_378.out _; (with_reducible repeat (first | refine blk_drewN ?_ _ | refine blk_drew ?_ | refine blk_alloc ?_ _)); refine blk_far ?_ NB368_378.out _; (with_reducible repeat (first | refine blk_drewN ?_ _ | refine blk_drew ?_ | refine blk_alloc ?_ _)); exact BK368.out) NB368_0.out (by simp)); replace HO372 := Aside0.mk (Kd.R_mono (Kd.R_keep (IsS81.apart (show IsS81 w0 _ g s0_0 t376 t377 from i81a2_ HI0.out NB0_368.out NB0_378.out) (by (with_reducible repeat (first | apply Kd.R_alloc | apply Kd.R_drewN | apply Kd.R_drew)); exact (Kd.R_mono (Kd.R_far (p := ⟨gb378, 2, none⟩) (Kd.R_far (p := ⟨gb378, 1, none⟩) (Kd.R_far (p := ⟨gb378, 0, none⟩) (Kd.R_types HO372.out BK378.out (by decide)) (fun _ hk => hk.2) (.int .i64 t369)) (fun _ hk => hk.2) (.slice Ao100 t370.length co100)) (fun _ hk => hk.2) (.slice Ao101 t373.length co101)) (fun _ h_ => h_.1))) (by decide)) hk (fun _ h => h.2)) (fun _ h => h.1)); replace HO375 := Aside0.mk (Kd.N_mono (Kd.N_keep (Kd.N_mono (ok := fun k_ => ((((w.heap.size ≤ k_)) ∧ (some k_ ≠ (.slice Ao100 t370.length co100 : Value).ownBlock ∧ (k_ ≠ gb368 ∧ k_ ≠ g))) ∧ k_ ≠ gb378)) (by (with_reducible repeat (first | apply Kd.N_alloc | apply Kd.N_drewN | apply Kd.N_drew)); exact (Kd.N_mono (Kd.N_far (p := ⟨gb378, 2, none⟩) (Kd.N_far (p := ⟨gb378, 1, none⟩) (Kd.N_far (p := ⟨gb378, 0, none⟩) (Kd.N_mono HO375.out (fun k_ hk => (⟨hk, hk.2⟩ : _ ∧ k_ ≠ gb378))) (fun _ hk => hk.2) (.int .i64 t369)) (fun _ hk => hk.2) (.slice Ao100 t370.length co100)) (fun _ hk => hk.2) (.slice Ao101 t373.length co101)) (fun _ h_ => h_.1))) (fun k_ hk_ => (⟨hk_, hk_.1.2.2.2⟩ : _ ∧ k_ ≠ g))) hk (fun _ h => h.2)) (fun _ h => h.1)); replace BK378 := Aside0.mk (KeepBut.blk hk (g' := gb378) (o := .cells #[.int .i64 t369, .slice Ao100 t370.length co100, .slice Ao101 t373.length co101] 30 (0, 0)) (by (with_reducible repeat (first | refine blk_drewN ?_ _ | refine blk_drew ?_ | refine blk_alloc ?_ _)); refine blk_put (cs := #[.int .i64 t369, .slice Ao100 t370.length co100, .slice none 0 0]) ?_ 2 _ rfl; (with_reducible repeat (first | refine blk_drewN ?_ _ | refine blk_drew ?_ | refine blk_alloc ?_ _)); refine blk_put (cs := #[.int .i64 t369, .slice none 0 0, .slice none 0 0]) ?_ 1 _ rfl; (with_reducible repeat (first | refine blk_drewN ?_ _ | refine blk_drew ?_ | refine blk_alloc ?_ _)); refine blk_put (cs := #[.int .i64 0, .slice none 0 0, .slice none 0 0]) ?_ 0 _ rfl; (with_reducible repeat (first | refine blk_drewN ?_ _ | refine blk_drew ?_ | refine blk_alloc ?_ _)); exact BK378.out) NB378_0.out (by simp)); replace HK := Aside0.mk (KeepBut.trans (G2_ HK.out GW368.out GW378.out) hk (.inl rfl)); replace HB := Aside0.mk (hb); replace HI0 := Aside0.mk (hi); (try clear hb); (try clear hb2); (try clear hk); (try clear hi); obtain ⟨hcz103_0, hcz103_1, hcz103_2, hfz103_0, hfz103_1, hfz103_2⟩ := box3_ BK378.out; have hnb104 := NB368_0.out; have hnc104 := NB0_368.out; obtain ⟨hcz105_0, hcz105_1, hcz105_2, hfz105_0, hfz105_1, hfz105_2⟩ := box3_ BK368.out))
     refine bodyPost_ret (results_cell_row rfl _ _ gb368 30 #[.int .i64 t369, .slice Ao100 t370.length co100, .slice Ao101 t373.length co101] (0, 0) _ rfl (by (with_reducible repeat (first | refine blk_drewN ?_ _ | refine blk_drew ?_ | refine blk_alloc ?_ _)); refine blk_put (cs := #[.int .i64 t369, .slice Ao100 t370.length co100, .slice none 0 0]) ?_ 2 _ rfl; (with_reducible repeat (first | refine blk_drewN ?_ _ | refine blk_drew ?_ | refine blk_alloc ?_ _)); refine blk_put (cs := #[.int .i64 t369, .slice none 0 0, .slice none 0 0]) ?_ 1 _ rfl; (with_reducible repeat (first | refine blk_drewN ?_ _ | refine blk_drew ?_ | refine blk_alloc ?_ _)); refine blk_put (cs := #[.int .i64 0, .slice none 0 0, .slice none 0 0]) ?_ 0 _ rfl; (with_reducible repeat (first | refine blk_drewN ?_ _ | refine blk_drew ?_ | refine blk_alloc ?_ _)); exact BK368.out) Try.underlying30 rfl (by kernel_rfl)) rfl ?_
     exact ⟨_, _, er_, by (with_reducible repeat (first | apply Kd.R_alloc | apply Kd.R_drewN | apply Kd.R_drew)); exact Kd.R_mono (Kd.R_far (p := ⟨gb368, 2, none⟩) (Kd.R_far (p := ⟨gb368, 1, none⟩) (Kd.R_far (p := ⟨gb368, 0, none⟩) (Kd.R_types HO372.out BK368.out (by decide)) (fun _ hk => hk.2) (.int .i64 t369)) (fun _ hk => hk.2) (.slice Ao100 t370.length co100)) (fun _ hk => hk.2) (.slice Ao101 t373.length co101)) (fun _ hk => hk.1.1), by (with_reducible repeat (first | apply Kd.N_alloc | apply Kd.N_drewN | apply Kd.N_drew)); exact Kd.N_mono (Kd.N_far (p := ⟨gb368, 2, none⟩) (Kd.N_far (p := ⟨gb368, 1, none⟩) (Kd.N_far (p := ⟨gb368, 0, none⟩) (Kd.N_mono HO375.out (fun k_ hk => (⟨hk, hk.1.2.2.1⟩ : _ ∧ k_ ≠ gb368))) (fun _ hk => hk.2) (.int .i64 t369)) (fun _ hk => hk.2) (.slice Ao100 t370.length co100)) (fun _ hk => hk.2) (.slice Ao101 t373.length co101)) (fun _ hk => ⟨hk.1.1.1, hk.1.1.2.1⟩), i81a2_ HI0.out NB0_368.out NB0_378.out, B3_ HB.out (IsS81.ge HI0.out) GE368.out GE378.out, G2_ HK.out GW368.out GW378.out⟩

/-! ### spec_l1New: function 55 -/
def spec_l1New.l0 : Nat → List Int → Int → Int → Option (List Int × Int × Int)
 | 0, _, _, _ => none
 | k + 1, x0, x3, x4 => if x4 < (x0.length : Int) then (if x4 < 4000 then (if 0 ≤ x4 then (spec_l1New.l0 k x0 (Go.bits .and .i64 (wrap64 ((wrap64 ((wrap64 (x3 * 131)) + (wrap64 (rd x0 x4)))) + 7)) 1073741823) (wrap64 (x4 + 1))) else (none)) else (some (x0, 0, x3))) else (some (x0, 0, x3))
def spec_l1New.f (k : Nat) (l0 : List Int) : Option (List Int × Int × Int) := spec_l1New.l0 k l0 (wrap64 (26583 + (l0.length : Int))) 0
theorem spec_l1New.mono_l : ∀ k, (∀ y0 y1 y2, LeO (spec_l1New.l0 k y0 y1 y2) (spec_l1New.l0 (k + 1) y0 y1 y2))
 | 0 => fun _ _ _ r h => by simp [spec_l1New.l0] at h
 | k + 1 => by
  have ih0 := spec_l1New.mono_l k
  ·intro y0 y1 y2
   unfold spec_l1New.l0
   repeat' first
   | (with_reducible exact ih0 _ _ _)
   | (with_reducible exact LeO.refl _)
   | (with_reducible exact LeO.none _)
   | (with_reducible refine LeO.ite ?_ ?_)
   | (with_reducible refine LeO.bind ?_ (fun _ => ?_))
   | exact ih0 _ _ _
   | exact LeO.none _
   | refine LeO.ite ?_ ?_
   | refine LeO.bind ?_ (fun _ => ?_)
theorem spec_l1New.mono : ∀ a0 k, LeO (spec_l1New.f k a0) (spec_l1New.f (k + 1) a0) := by
 intro a0 k
 have ih0 := spec_l1New.mono_l k
 unfold spec_l1New.f
 repeat' first
   | (with_reducible exact ih0 _ _ _)
   | (with_reducible exact LeO.refl _)
   | (with_reducible exact LeO.none _)
   | (with_reducible refine LeO.ite ?_ ?_)
   | (with_reducible refine LeO.bind ?_ (fun _ => ?_))
   | exact ih0 _ _ _
   | exact LeO.none _
   | refine LeO.ite ?_ ?_
   | refine LeO.bind ?_ (fun _ => ?_)
set_option maxHeartbeats 8000000 in
set_option maxRecDepth 100000 in
theorem spec_l1New.calls (k : Nat) (A0 : Option Addr) (c0 : Nat) (l0 : List Int) (r1 : List Int) (r2 : Int) (r3 : Int) (w0 w : World) (hB : Below w0.heap.size w0 w) (hr0 : Kd.C (Kd.int .u8) w0 A0 l0.length l0) (hc0 : l0.length ≤ c0) (h : spec_l1New.f k l0 = some (r1, r2, r3)) :
  Calls Try.prog 55 #[.slice A0 l0.length c0] w fun e w' => ∃ g_ : Nat, e = .returned (.pointer (some ⟨g_, 0, none⟩)) ∧ IsS81 w0 w' g_ r1 r2 r3 ∧ Below w0.heap.size w0 w' ∧ Below w.heap.size w w' := by
 have hu81 := Try.underlying81
 have HR0 := Aside0.mk hr0
 have HC0 := Aside0.mk hc0
 clear hr0 hc0
 have HBW := Aside0.mk (Below.refl w.heap.size w)
 have HW0 := Aside0.mk hB.size
 have HB := Aside0.mk hB
 clear hB
 have H : (spec_l1New.l0 k l0 (wrap64 (26583 + (l0.length : Int))) 0) = some (r1, r2, r3) := h
 clear h
 have H' := Aside0.mk H
 clear H
 go_enter Try.func55, Try.ntmps55
 go_wp2
 go_loopg [3, 4] k (fun kq v3 v4 w' => ∃ (x3_1 : Int) (x4_1 : Int), v3 = .int .i64 x3_1 ∧ v4 = .int .i64 x4_1 ∧ Aside0 (spec_l1New.l0 kq l0 x3_1 x4_1 = some (r1, r2, r3)) ∧ Aside0 (kq ≤ k) ∧ Aside0 (Below w.heap.size w w') ∧ Aside0 (Below w0.heap.size w0 w'))
 case atStart => exact ⟨(wrap64 (26583 + (l0.length : Int))), (0), q_, q_, H', ⟨Nat.le_refl _⟩, ⟨B0_ HBW.out⟩, ⟨B0_ HB.out⟩⟩
 case round =>
  clear H'
  obtain ⟨x3_1, x4_1, rfl, rfl, HA, HK1, HBW, HB⟩ := hrel
  cases gk with
  | zero => exact absurd HA.out (by simp [spec_l1New.l0])
  | succ k1 =>
   have H := HA.out
   clear HA
   simp only [spec_l1New.l0] at H
   by_cases c2 : x4_1 < (l0.length : Int)
   ·rw [if_pos c2] at H
    have c2b0 : decide (x4_1 < (l0.length : Int)) = true := decide_eq_true c2
    clear c2
    by_cases c3 : x4_1 < 4000
    ·rw [if_pos c3] at H
     have c3b0 : decide (x4_1 < 4000) = true := decide_eq_true c3
     clear c3
     by_cases c4 : 0 ≤ x4_1
     ·rw [if_pos c4] at H
      have c4b0 : decide (0 ≤ x4_1) = true := decide_eq_true c4
      clear c4
      have H' := Aside0.mk H
      clear H
      have p414 : 0 ≤ (x4_1 : Int) := de_
      have q414 : x4_1 < (l0.length : Int) := de_
      obtain ⟨ad414, e414, hx414_0⟩ := Kd.at_int HR0.out x4_1 p414 q414
      cases e414
      replace hx414_0 := pw_cell_below HB.out hx414_0
      replace p414 := eq_true p414
      replace q414 := eq_true q414
      go_wp2
      go_roundg k1
      case measure => have := HK1.out; omega
      case rel => exact ⟨(Go.bits .and .i64 (wrap64 ((wrap64 ((wrap64 (x3_1 * 131)) + (wrap64 (rd l0 x4_1)))) + 7)) 1073741823), (wrap64 (x4_1 + 1)), q_, q_, H', ⟨by have := HK1.out; omega⟩, ⟨B0_ HBW.out⟩, ⟨B0_ HB.out⟩⟩
     ·rw [if_neg c4] at H
      exact absurd H (by simp)
    ·rw [if_neg c3] at H
     have c3b0 : decide (x4_1 < 4000) = false := decide_eq_false c3
     clear c3
     simp only [Option.some.injEq, Prod.mk.injEq] at H
     obtain ⟨rfl, rfl, rfl⟩ := H
     go_wp2_with (first | ((with_reducible refine gate_dst (N := 31) rfl ?_); refine box_event ?hg (N := 31) ?hd (cs := #[.slice A0 l0.length c0, .int .i64 0, .int .i64 x3_1]) (t := 81) ?hr ?_; (case hd => rfl); (case hg => rfl); (case hr => first | (go_simp; done) | (go_simp; rfl)); intro gb415 hg w5 hbox hb; replace HB := Aside0.mk (below_step (B0_ HB.out) hb); have BK415 := Aside0.mk (hbox); have GW415 := Aside0.mk ((by rw [hg]; exact (below_size (B0_ HBW.out)) : w.heap.size ≤ gb415)); have GE415 := Aside0.mk ((Nat.le_trans HW0.out (by rw [hg]; exact (below_size (B0_ HBW.out)) : w.heap.size ≤ gb415) : w0.heap.size ≤ gb415)); replace HBW := Aside0.mk (below_step HBW.out hb); clear hb hbox hg))
     go_ret
     exact ⟨_, rfl, (show IsS81 w0 _ gb415 l0 0 x3_1 from ⟨_, _, K_ BK415.out, GE415.out, HR0.out⟩), B1_ HB.out GE415.out, B1_ HBW.out GW415.out⟩
   ·rw [if_neg c2] at H
    have c2b0 : decide (x4_1 < (l0.length : Int)) = false := decide_eq_false c2
    clear c2
    simp only [Option.some.injEq, Prod.mk.injEq] at H
    obtain ⟨rfl, rfl, rfl⟩ := H
    go_wp2_with (first | ((with_reducible refine gate_dst (N := 31) rfl ?_); refine box_event ?hg (N := 31) ?hd (cs := #[.slice A0 l0.length c0, .int .i64 0, .int .i64 x3_1]) (t := 81) ?hr ?_; (case hd => rfl); (case hg => rfl); (case hr => first | (go_simp; done) | (go_simp; rfl)); intro gb416 hg w6 hbox hb; replace HB := Aside0.mk (below_step (B0_ HB.out) hb); have BK416 := Aside0.mk (hbox); have GW416 := Aside0.mk ((by rw [hg]; exact (below_size (B0_ HBW.out)) : w.heap.size ≤ gb416)); have GE416 := Aside0.mk ((Nat.le_trans HW0.out (by rw [hg]; exact (below_size (B0_ HBW.out)) : w.heap.size ≤ gb416) : w0.heap.size ≤ gb416)); replace HBW := Aside0.mk (below_step HBW.out hb); clear hb hbox hg))
    go_ret
    exact ⟨_, rfl, (show IsS81 w0 _ gb416 l0 0 x3_1 from ⟨_, _, K_ BK416.out, GE416.out, HR0.out⟩), B1_ HB.out GE416.out, B1_ HBW.out GW416.out⟩

end Go.Proofs.Ytingaflikkeefaa.XB
