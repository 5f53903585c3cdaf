-- Written by myprint.py, a program of this session, which runs the kit's printer with changes of its own. Lean checks it.
import Derived.Test.YtingaflikkeefaaXBx0
import Derived.Test.YtingaflikkeefaaXBx10
import Derived.Test.YtingaflikkeefaaXBx11
import Derived.Test.YtingaflikkeefaaXBx12
import Derived.Test.YtingaflikkeefaaSq
namespace Go.Proofs.Ytingaflikkeefaa.XB
open Go.RowKit Go.Proofs.YtingaflikkeefaaW.PrintWords Go.Proofs.YtingaflikkeefaaW.PrintLast Go.Proofs.YtingaflikkeefaaW.PrintMore Go.Proofs.Ytingaflikkeefaa.Sq
attribute [local go_sem] max2_int min2_int max_two min_two max_three min_three max_four min_four   -- for this text's walks alone
set_option linter.unusedVariables false
set_option linter.unusedSimpArgs false

/-! ### spec_l3Draw: function 73 -/
mutual
def spec_l3Draw.j0 : Nat → Int → Bool → List Int → Int → Int → Option (Int × List ByteArray × (List (S30)) × Int × Int)
 | 0, _, _, _, _, _ => none
 | k + 1, x1, x13, x1000, x1001, x1002 => if x13 = true then ((spec_l1PickInt.f x1000 x1001 x1002 (([1, 2, 1] : List Int))).bind fun bt258 => (some (bt258.1, ([] : List ByteArray), ([] : List (S30)), bt258.2.1, bt258.2.2))) else ((spec_l1Below.f x1000 x1001 x1002 4).bind fun bt261 => (if bt261.1 = 0 then ((spec_l3Draw.f k x1000 bt261.2.1 bt261.2.2 (wrap64 (x1 - 1))).bind fun bt264 => ((spec_l3List.f k bt264.1 bt264.2.1 bt264.2.2.1).bind fun bt273 => (some (bt273.1, bt273.2.1, bt273.2.2, bt264.2.2.2.1, bt264.2.2.2.2)))) else (if bt261.1 = 1 then ((spec_l3Draw.f k x1000 bt261.2.1 bt261.2.2 (wrap64 (x1 - 1))).bind fun bt280 => ((spec_l3Draw.f k x1000 bt280.2.2.2.1 bt280.2.2.2.2 (wrap64 (x1 - 1))).bind fun bt293 => ((spec_l3Labeled.f k 4 (([(⟨#[112]⟩ : ByteArray), (⟨#[113]⟩ : ByteArray)] : List ByteArray)) (([(⟨bt280.1, bt280.2.1, bt280.2.2.1⟩ : S30), (⟨bt293.1, bt293.2.1, bt293.2.2.1⟩ : S30)] : List (S30)))).bind fun bt305 => (some (bt305.1, bt305.2.1, bt305.2.2, bt293.2.2.2.1, bt293.2.2.2.2))))) else (if bt261.1 = 2 then ((spec_l3Draw.f k x1000 bt261.2.1 bt261.2.2 (wrap64 (x1 - 1))).bind fun bt312 => ((spec_l3Labeled.f k 3 (([(⟨#[97]⟩ : ByteArray), (⟨#[98]⟩ : ByteArray)] : List ByteArray)) (([(⟨bt312.1, bt312.2.1, bt312.2.2.1⟩ : S30), (⟨bt312.1, bt312.2.1, bt312.2.2.1⟩ : S30)] : List (S30)))).bind fun bt328 => (some (bt328.1, bt328.2.1, bt328.2.2, bt312.2.2.2.1, bt312.2.2.2.2)))) else ((spec_l3Draw.f k x1000 bt261.2.1 bt261.2.2 (wrap64 (x1 - 1))).bind fun bt335 => ((spec_l3Draw.f k x1000 bt335.2.2.2.1 bt335.2.2.2.2 (wrap64 (x1 - 1))).bind fun bt348 => ((spec_l3Labeled.f k 3 (([(⟨#[97]⟩ : ByteArray), (⟨#[98]⟩ : ByteArray)] : List ByteArray)) (([(⟨bt335.1, bt335.2.1, bt335.2.2.1⟩ : S30), (⟨bt348.1, bt348.2.1, bt348.2.2.1⟩ : S30)] : List (S30)))).bind fun bt360 => (some (bt360.1, bt360.2.1, bt360.2.2, bt348.2.2.2.1, bt348.2.2.2.2)))))))))
def spec_l3Draw.f : Nat → List Int → Int → Int → Int → Option (Int × List ByteArray × (List (S30)) × Int × Int)
 | 0, _, _, _, _ => none
 | k + 1, s0_0, s0_1, s0_2, a1 => if a1 < 2 then (spec_l3Draw.j0 k a1 true s0_0 s0_1 s0_2) else ((spec_l1Once.f s0_0 s0_1 s0_2 4).bind fun bt252 => (spec_l3Draw.j0 k a1 bt252.1 s0_0 bt252.2.1 bt252.2.2))
end
theorem spec_l3Draw.mono_l : ∀ k, (∀ y0 y1 y2 y3, LeO (spec_l3Draw.f k y0 y1 y2 y3) (spec_l3Draw.f (k + 1) y0 y1 y2 y3)) ∧ (∀ y0 y1 y2 y3 y4, LeO (spec_l3Draw.j0 k y0 y1 y2 y3 y4) (spec_l3Draw.j0 (k + 1) y0 y1 y2 y3 y4))
 | 0 => ⟨fun _ _ _ _ r h => by simp [spec_l3Draw.f] at h, fun _ _ _ _ _ r h => by simp [spec_l3Draw.j0] at h⟩
 | k + 1 => by
  obtain ⟨ih0, ih1⟩ := spec_l3Draw.mono_l k
  refine ⟨?_, ?_⟩
  ·intro y0 y1 y2 y3
   unfold spec_l3Draw.f
   repeat' first
   | (with_reducible exact ih0 _ _ _ _)
   | (with_reducible exact ih1 _ _ _ _ _)
   | (with_reducible exact spec_l3Labeled.mono _ _ _ _)
   | (with_reducible exact spec_l3List.mono _ _ _ _)
   | (with_reducible exact LeO.refl _)
   | (with_reducible exact LeO.none _)
   | (with_reducible refine LeO.ite ?_ ?_)
   | (with_reducible refine LeO.bind ?_ (fun _ => ?_))
   | exact ih0 _ _ _ _
   | exact ih1 _ _ _ _ _
   | exact spec_l3Labeled.mono _ _ _ _
   | exact spec_l3List.mono _ _ _ _
   | exact LeO.none _
   | refine LeO.ite ?_ ?_
   | refine LeO.bind ?_ (fun _ => ?_)
  ·intro y0 y1 y2 y3 y4
   unfold spec_l3Draw.j0
   repeat' first
   | (with_reducible exact ih0 _ _ _ _)
   | (with_reducible exact ih1 _ _ _ _ _)
   | (with_reducible exact spec_l3Labeled.mono _ _ _ _)
   | (with_reducible exact spec_l3List.mono _ _ _ _)
   | (with_reducible exact LeO.refl _)
   | (with_reducible exact LeO.none _)
   | (with_reducible refine LeO.ite ?_ ?_)
   | (with_reducible refine LeO.bind ?_ (fun _ => ?_))
   | exact ih0 _ _ _ _
   | exact ih1 _ _ _ _ _
   | exact spec_l3Labeled.mono _ _ _ _
   | exact spec_l3List.mono _ _ _ _
   | exact LeO.none _
   | refine LeO.ite ?_ ?_
   | refine LeO.bind ?_ (fun _ => ?_)
theorem spec_l3Draw.mono : ∀ a0 a1 a2 a3 k, LeO (spec_l3Draw.f k a0 a1 a2 a3) (spec_l3Draw.f (k + 1) a0 a1 a2 a3) := by
 intro a0 a1 a2 a3 k
 obtain ⟨ih0, ih1⟩ := spec_l3Draw.mono_l k
 exact ih0 a0 a1 a2 a3
def spec_l3Draw.T8 : Bool × List (List Nat × List Nat) := (true, [([], []), ([], []), ([], []), ([], []), ([3], [3]), ([2, 4], [2, 4]), ([1, 5], [1, 5]), ([0, 6, 5], [0, 6]), ([7, 7, 0, 1, 2, 3, 4, 5, 6, 7], [7])])
def spec_l3Draw.B8 : List Nat := [0, 0, 0, 0, 8, 28, 62, 127, 255]
theorem spec_l3Draw.tab8 : rtab .any (opsOf Try.f73 8) = spec_l3Draw.T8 := by kernel_rfl
theorem spec_l3Draw.bits8 : waitsOk spec_l3Draw.T8.2 spec_l3Draw.B8 = true := by kernel_rfl
def spec_l3Draw.T13 : Bool × List (List Nat × List Nat) := (true, [([], []), ([], []), ([], []), ([], []), ([3], [3]), ([2, 4], [2, 4]), ([1, 5], [1, 5]), ([0, 6, 5], [0, 6]), ([7, 7, 0, 1, 2, 3, 4, 5, 6, 7], [7])])
def spec_l3Draw.B13 : List Nat := [0, 0, 0, 0, 8, 28, 62, 127, 255]
theorem spec_l3Draw.tab13 : rtab .any (opsOf Try.f73 13) = spec_l3Draw.T13 := by kernel_rfl
theorem spec_l3Draw.bits13 : waitsOk spec_l3Draw.T13.2 spec_l3Draw.B13 = true := by kernel_rfl
set_option maxHeartbeats 8000000 in
set_option maxRecDepth 100000 in
theorem spec_l3Draw.calls (k : Nat) : ∀ (g : Nat) (s0_0 : List Int) (s0_1 : Int) (s0_2 : Int) (a1 : Int) (r1 : Int) (r2 : List ByteArray) (r3 : List (S30)) (r4 : Int) (r5 : Int) (w0 w : World) (hI : IsS81 w0 w g s0_0 s0_1 s0_2) (hB : Below w0.heap.size w0 w) (h : spec_l3Draw.f k s0_0 s0_1 s0_2 a1 = some (r1, r2, r3, r4, r5)),
  Calls Try.prog 73 #[.pointer (some ⟨g, 0, none⟩), .int .i64 a1] w fun e w' => ∃ v1_ v2_ : Value, e = .returned (.agg #[.int .i64 r1, v1_, v2_]) ∧ Kd.R Kd.string 9 w' w.heap.size (fun k_ => (w.heap.size ≤ k_)) v1_ r2 ∧ Kd.N k30 30 w' w.heap.size (fun k_ => (w.heap.size ≤ k_) ∧ some k_ ≠ (v1_ : Value).ownBlock) v2_ r3 ∧ IsS81 w0 w' g s0_0 r4 r5 ∧ Below w0.heap.size w0 w' ∧ KeepBut w w' g none := by
 induction k using Nat.strongRecOn with
 | _ k ih =>
 intro g s0_0 s0_1 s0_2 a1 r1 r2 r3 r4 r5 w0 w hI hB h
 cases k with
 | zero => exact absurd h (by simp [spec_l3Draw.f])
 | succ k =>
 simp only [spec_l3Draw.f] at h
 have hu30 := Try.underlying30
 have HI0 := Aside0.mk hI
 have HK := Aside0.mk (KeepBut.refl w g none)
 have HL := Aside0.mk hB.size
 clear hI
 have HW0 := Aside0.mk hB.size
 have HB := Aside0.mk hB
 clear hB
 have H : (if a1 < 2 then (spec_l3Draw.j0 k a1 true s0_0 s0_1 s0_2) else ((spec_l1Once.f s0_0 s0_1 s0_2 4).bind fun bt252 => (spec_l3Draw.j0 k a1 bt252.1 s0_0 bt252.2.1 bt252.2.2))) = some (r1, r2, r3, r4, r5) := h
 clear h
 have HC3 := Aside0.mk H
 clear H
 go_enter Try.func73, Try.ntmps73
 go_upto_region 1 with (first | ((with_reducible refine gate_dst (N := 4) rfl ?_); refine box_event ?hg (N := 4) ?hd (cs := #[.int .i64 0, .slice none 0 0, .slice none 0 0]) (t := 30) ?hr ?_; (case hd => rfl); (case hg => rfl); (case hr => first | (go_simp; done) | (go_simp; rfl)); intro gb251 hg w4 hbox hb; replace HB := Aside0.mk (below_step (B1_ HB.out (IsS81.ge HI0.out)) hb); have BK251 := Aside0.mk (hbox); have GW251 := Aside0.mk ((by rw [hg]; exact (keep_size (w := w) (g := g) (row := none) (G0_ HK.out)) : w.heap.size ≤ gb251)); have GE251 := Aside0.mk ((Nat.le_trans HW0.out (by rw [hg]; exact (keep_size (w := w) (g := g) (row := none) (G0_ HK.out)) : w.heap.size ≤ gb251) : w0.heap.size ≤ gb251)); replace HK := Aside0.mk (KeepBut.trans (G0_ HK.out) (KeepBut.of_below hb g none) (.inl rfl)); have NB0_251 := Aside0.mk ((by rw [hg]; exact Nat.ne_of_lt (IsS81.lt (show IsS81 w0 _ g s0_0 s0_1 s0_2 from i81a0_ HI0.out)) : g ≠ gb251)); have NB251_0 := Aside0.mk ((by rw [hg]; exact Nat.ne_of_gt (IsS81.lt (show IsS81 w0 _ g s0_0 s0_1 s0_2 from i81a0_ HI0.out)) : gb251 ≠ g)); replace HI0 := Aside0.mk (IsS81.below (i81a0_ HI0.out) hb); clear hb hbox hg))
 (try simp only [Act.put, List.setIfInBounds_toArray, List.set_cons_zero, List.set_cons_succ])
 go_cut [13] (fun v13 wc => ∃ (kq : Nat) (x13_2 : Bool) (x1001_2 : Int) (x1002_2 : Int), v13 = .bool x13_2 ∧ Aside0 (spec_l3Draw.j0 kq a1 x13_2 s0_0 x1001_2 x1002_2 = some (r1, r2, r3, r4, r5)) ∧ Aside0 (kq ≤ k) ∧ Aside0 (wc.heap[gb251]? = some (.cells #[.int .i64 0, (.slice none 0 0), (.slice none 0 0)] 30 (0, 0))) ∧ Aside0 (IsS81 w0 wc g s0_0 x1001_2 x1002_2) ∧ Aside0 (KeepBut w wc g none) ∧ Aside0 (Below w0.heap.size w0 wc))
 case first =>
  have H := HC3.out
  clear HC3
  by_cases c5 : a1 < 2
  ·rw [if_pos c5] at H
   have c5b0 : decide (a1 < 2) = true := decide_eq_true c5
   clear c5
   (first | rw [c5b0] | (simp only [i64_w, i32_w]; rw [c5b0]) | skip)
   have H' := Aside0.mk H
   clear H
   go_wp2
   go_meet
   case rel => exact ⟨_, (true), (s0_1), (s0_2), q_, H', ⟨le_⟩, ⟨K_ BK251.out⟩, ⟨i81a1_ HI0.out NB0_251.out⟩, ⟨G1_ HK.out GW251.out⟩, ⟨B2_ HB.out (IsS81.ge HI0.out) GE251.out⟩⟩
  ·rw [if_neg c5] at H
   have c5b0 : decide (a1 < 2) = false := decide_eq_false c5
   clear c5
   (first | rw [c5b0] | (simp only [i64_w, i32_w]; rw [c5b0]) | skip)
   replace H := Option.bind_eq_some_iff.mp H
   obtain ⟨⟨t252, t253, t254⟩, A60, H⟩ := H
   replace H : (spec_l3Draw.j0 k a1 t252 s0_0 t253 t254) = some (r1, r2, r3, r4, r5) := H
   have A6 := Aside0.mk A60
   clear A60
   have H' := Aside0.mk H
   clear H
   go_wp2_with (first | (go_at_call 56; (with_reducible refine (spec_l1Once.calls g s0_0 s0_1 s0_2 4 t252 t253 t254 w0 _ ?side1 ?side2 A6.out).mono ?_); (case side1 => repeat (first | (with_reducible first | exact HI0.out | apply IsS81.alloc | apply IsS81.drewN | apply IsS81.drew | apply IsS81.set_1 | apply IsS81.set_2 | refine IsS81.far ?_ NB0_251.out _) | exact HI0.out)); (case side2 => repeat (first | (with_reducible first | exact HB.out | apply below_alloc | apply pw_below_drewN | apply below_drew1 | refine below_set ?_ (IsS81.ge HI0.out) | refine below_set ?_ GE251.out) | exact HB.out)); rintro e w7 ⟨rfl, hi, hb, hk⟩; replace BK251 := Aside0.mk (KeepBut.blk hk (g' := gb251) (o := .cells #[.int .i64 0, .slice none 0 0, .slice none 0 0] 30 (0, 0)) (K_ BK251.out) NB251_0.out (by simp)); replace HK := Aside0.mk (KeepBut.trans (G1_ HK.out GW251.out) hk (.inl rfl)); replace HB := Aside0.mk (hb); replace HI0 := Aside0.mk (hi); (try clear hb); (try clear hb2); (try clear hk); (try clear hi)))
   go_meet
   case rel => exact ⟨_, (t252), (t253), (t254), q_, H', ⟨le_⟩, ⟨K_ BK251.out⟩, ⟨i81a1_ HI0.out NB0_251.out⟩, ⟨G1_ HK.out GW251.out⟩, ⟨B2_ HB.out (IsS81.ge HI0.out) GE251.out⟩⟩
 case rest =>
  clear HC3
  obtain ⟨kq, x13_2, x1001_2, x1002_2, rfl, HA, HJ2, BK251, HI0, HK, HB⟩ := hcut
  cases kq with
  | zero => exact absurd HA.out (by simp [spec_l3Draw.j0])
  | succ kj2 =>
   have H := HA.out
   clear HA
   simp only [spec_l3Draw.j0] at H
   by_cases c8 : x13_2 = true
   ·subst c8
    have H1 : ((spec_l1PickInt.f s0_0 x1001_2 x1002_2 (([1, 2, 1] : List Int))).bind fun bt258 => (some (bt258.1, ([] : List ByteArray), ([] : List (S30)), bt258.2.1, bt258.2.2))) = some (r1, r2, r3, r4, r5) := by rw [if_pos rfl] at H; exact H
    clear H
    have H := H1
    clear H1
    obtain ⟨y255, hy255⟩ : ∃ y_ : List Int, y_ = (([1, 2, 1] : List Int)) := ⟨_, rfl⟩
    replace H : ((spec_l1PickInt.f s0_0 x1001_2 x1002_2 y255).bind fun bt258 => (some (bt258.1, ([] : List ByteArray), ([] : List (S30)), bt258.2.1, bt258.2.2))) = some (r1, r2, r3, r4, r5) := by first | (rw [hy255]; with_reducible exact H) | (have H2_ := (Option.bind_some _ _).symm.trans H; rw [hy255]; with_reducible exact H2_) | (have H2_ := (Option.bind_some _ _).symm.trans H; with_reducible exact H2_) | with_reducible exact H | (rw [hy255]; exact H) | exact H
    have Ny255 := Aside0.mk hy255
    clear hy255
    replace H := Option.bind_eq_some_iff.mp H
    obtain ⟨⟨t258, t259, t260⟩, A90, H⟩ := H
    replace H : (some (t258, ([] : List ByteArray), ([] : List (S30)), t259, t260)) = some (r1, r2, r3, r4, r5) := H
    have A9 := Aside0.mk A90
    clear A90
    simp only [Option.some.injEq, Prod.mk.injEq] at H
    obtain ⟨rfl, rfl, rfl, rfl, rfl⟩ := H
    go_wp2_with (first | ((with_reducible refine gate_dst (N := 15) rfl ?_); refine Kd.R_lit (Kd.int .i64) _ 3 ?hg (N := 15) ?hd (xs := ([1, 2, 1] : List Int)) (inner := [.int .i64 1, .int .i64 2, .int .i64 1]) (ok := fun _ => True) (okp := fun _ => True) ?hr ?hp (fun _ hk => hk) trivial (Below.refl _ _) (Nat.le_refl _) (by simp) ?_; (case hd => rfl); (case hg => rfl); (case hr => first | (go_simp; done) | (go_simp; rfl)); (case hp => exact (Reps.one (show Kd.M (Kd.int .i64) _ _ _ 1 [.int .i64 1] from rfl) (Reps.one (show Kd.M (Kd.int .i64) _ _ _ 2 [.int .i64 2] from rfl) (Reps.one (show Kd.M (Kd.int .i64) _ _ _ 1 [.int .i64 1] from rfl) (Reps.none _ _))))); intro v256 w10 ho11 hb hg_ hnew_; clear hg_ hnew_; (first | rw [← Ny255.out] at ho11 | (simp only [Int.reduceToNat] at ho11; rw [← Ny255.out] at ho11)); have HO257 := Aside0.mk (Kd.R_lower (Kd.R_newM (M := fun k_ => (w.heap.size ≤ k_)) ho11 (keep_size (w := w) (g := g) (row := none) (G1_ HK.out GW251.out)) (fun k_ h_ => h_)) (keep_size (w := w) (g := g) (row := none) (G1_ HK.out GW251.out))); replace BK251 := kb_ BK251 hb; replace HK := Aside0.mk (KeepBut.trans (G1_ HK.out GW251.out) (KeepBut.of_below hb g none) (.inl rfl)); replace HB := Aside0.mk (below_step (B2_ HB.out (IsS81.ge HI0.out) GE251.out) hb); replace HI0 := Aside0.mk (IsS81.below (i81a1_ HI0.out NB0_251.out) hb); clear hb ho11; obtain ⟨Ao12, co12, eo12⟩ := Kd.R_slice HO257.out; subst eo12) | ((with_reducible refine gate_callee (f := 90) rfl ?_); refine goesL_ (some 16) rfl rfl Try.func90 (by kernel_rfl) rfl #[.pointer (some ⟨g, 0, none⟩), .slice Ao12 y255.length co12] rfl ma_ ?_; (with_reducible refine (spec_l1PickInt.calls g s0_0 x1001_2 x1002_2 _ _ y255 t258 t259 t260 w0 _ ?side1 ?side2 ?side3 ?side4 ?side5 A9.out).mono ?_); (case side1 => repeat (first | (with_reducible first | exact HI0.out | apply IsS81.alloc | apply IsS81.drewN | apply IsS81.drew | apply IsS81.set_1 | apply IsS81.set_2 | refine IsS81.far ?_ NB0_251.out _) | exact HI0.out)); (case side2 => repeat (first | (with_reducible first | exact HB.out | apply below_alloc | apply pw_below_drewN | apply below_drew1 | refine below_set ?_ (IsS81.ge HI0.out) | refine below_set ?_ GE251.out) | exact HB.out)); (case side3 => exact crb_ HO257); (case side4 => exact lrb_ HO257); (case side5 => exact far_slice (IsS81.own_ne HI0.out HO257.out (by decide))); rintro e w13 ⟨rfl, hi, hb, hk⟩; refine ⟨_, rfl, ?_⟩; replace BK251 := Aside0.mk (KeepBut.blk hk (g' := gb251) (o := .cells #[.int .i64 0, .slice none 0 0, .slice none 0 0] 30 (0, 0)) (K_ BK251.out) NB251_0.out (by simp)); replace HO257 := Aside0.mk (Kd.R_mono (Kd.R_keep (IsS81.apart (show IsS81 w0 _ g s0_0 x1001_2 x1002_2 from i81a1_ HI0.out NB0_251.out) (R_ HO257.out) (by decide)) hk (fun _ h => h.2)) (fun _ h => h.1)); replace HK := Aside0.mk (KeepBut.trans (G1_ HK.out GW251.out) hk (.inl rfl)); replace HB := Aside0.mk (hb); replace HI0 := Aside0.mk (hi); (try clear hb); (try clear hb2); (try clear hk); (try clear hi); have hnb14 := NB251_0.out; have hnc14 := NB0_251.out; obtain ⟨hcz15_0, hcz15_1, hcz15_2, hfz15_0, hfz15_1, hfz15_2⟩ := box3_ BK251.out))
    refine bodyPost_ret (results_cell_row rfl _ _ gb251 30 #[.int .i64 t258, .slice none 0 0, .slice none 0 0] (0, 0) _ rfl (by (with_reducible repeat (first | refine blk_drewN ?_ _ | refine blk_drew ?_ | refine blk_alloc ?_ _)); refine blk_put (cs := #[.int .i64 t258, .slice none 0 0, .slice none 0 0]) ?_ 2 _ rfl; (with_reducible repeat (first | refine blk_drewN ?_ _ | refine blk_drew ?_ | refine blk_alloc ?_ _)); refine blk_put (cs := #[.int .i64 t258, .slice none 0 0, .slice none 0 0]) ?_ 1 _ rfl; (with_reducible repeat (first | refine blk_drewN ?_ _ | refine blk_drew ?_ | refine blk_alloc ?_ _)); refine blk_put (cs := #[.int .i64 0, .slice none 0 0, .slice none 0 0]) ?_ 0 _ rfl; (with_reducible repeat (first | refine blk_drewN ?_ _ | refine blk_drew ?_ | refine blk_alloc ?_ _)); exact BK251.out) Try.underlying30 rfl (by kernel_rfl)) rfl ?_
    exact ⟨_, _, er_, by first | exact Kd.R_nil _ _ _ _ _ | exact Kd.N_nil _ _ _ _ _ | exact Kd.V_nil _ _ _ _ _ | exact Kd.Q_nil _ _ _ _ _ | exact Kd.S_nil _ _ _ _ _, by first | exact Kd.R_nil _ _ _ _ _ | exact Kd.N_nil _ _ _ _ _ | exact Kd.V_nil _ _ _ _ _ | exact Kd.Q_nil _ _ _ _ _ | exact Kd.S_nil _ _ _ _ _, i81a1_ HI0.out NB0_251.out, B2_ HB.out (IsS81.ge HI0.out) GE251.out, G1_ HK.out GW251.out⟩
   ·replace c8 := Bool.eq_false_iff.mpr c8
    subst c8
    have H1 : ((spec_l1Below.f s0_0 x1001_2 x1002_2 4).bind fun bt261 => (if bt261.1 = 0 then ((spec_l3Draw.f kj2 s0_0 bt261.2.1 bt261.2.2 (wrap64 (a1 - 1))).bind fun bt264 => ((spec_l3List.f kj2 bt264.1 bt264.2.1 bt264.2.2.1).bind fun bt273 => (some (bt273.1, bt273.2.1, bt273.2.2, bt264.2.2.2.1, bt264.2.2.2.2)))) else (if bt261.1 = 1 then ((spec_l3Draw.f kj2 s0_0 bt261.2.1 bt261.2.2 (wrap64 (a1 - 1))).bind fun bt280 => ((spec_l3Draw.f kj2 s0_0 bt280.2.2.2.1 bt280.2.2.2.2 (wrap64 (a1 - 1))).bind fun bt293 => ((spec_l3Labeled.f kj2 4 (([(⟨#[112]⟩ : ByteArray), (⟨#[113]⟩ : ByteArray)] : List ByteArray)) (([(⟨bt280.1, bt280.2.1, bt280.2.2.1⟩ : S30), (⟨bt293.1, bt293.2.1, bt293.2.2.1⟩ : S30)] : List (S30)))).bind fun bt305 => (some (bt305.1, bt305.2.1, bt305.2.2, bt293.2.2.2.1, bt293.2.2.2.2))))) else (if bt261.1 = 2 then ((spec_l3Draw.f kj2 s0_0 bt261.2.1 bt261.2.2 (wrap64 (a1 - 1))).bind fun bt312 => ((spec_l3Labeled.f kj2 3 (([(⟨#[97]⟩ : ByteArray), (⟨#[98]⟩ : ByteArray)] : List ByteArray)) (([(⟨bt312.1, bt312.2.1, bt312.2.2.1⟩ : S30), (⟨bt312.1, bt312.2.1, bt312.2.2.1⟩ : S30)] : List (S30)))).bind fun bt328 => (some (bt328.1, bt328.2.1, bt328.2.2, bt312.2.2.2.1, bt312.2.2.2.2)))) else ((spec_l3Draw.f kj2 s0_0 bt261.2.1 bt261.2.2 (wrap64 (a1 - 1))).bind fun bt335 => ((spec_l3Draw.f kj2 s0_0 bt335.2.2.2.1 bt335.2.2.2.2 (wrap64 (a1 - 1))).bind fun bt348 => ((spec_l3Labeled.f kj2 3 (([(⟨#[97]⟩ : ByteArray), (⟨#[98]⟩ : ByteArray)] : List ByteArray)) (([(⟨bt335.1, bt335.2.1, bt335.2.2.1⟩ : S30), (⟨bt348.1, bt348.2.1, bt348.2.2.1⟩ : S30)] : List (S30)))).bind fun bt360 => (some (bt360.1, bt360.2.1, bt360.2.2, bt348.2.2.2.1, bt348.2.2.2.2))))))))) = some (r1, r2, r3, r4, r5) := by rw [if_neg (show ¬ (false = true) by decide)] at H; exact H
    clear H
    have H := H1
    clear H1
    replace H := Option.bind_eq_some_iff.mp H
    obtain ⟨⟨t261, t262, t263⟩, A160, H⟩ := H
    replace H : (if t261 = 0 then ((spec_l3Draw.f kj2 s0_0 t262 t263 (wrap64 (a1 - 1))).bind fun bt264 => ((spec_l3List.f kj2 bt264.1 bt264.2.1 bt264.2.2.1).bind fun bt273 => (some (bt273.1, bt273.2.1, bt273.2.2, bt264.2.2.2.1, bt264.2.2.2.2)))) else (if t261 = 1 then ((spec_l3Draw.f kj2 s0_0 t262 t263 (wrap64 (a1 - 1))).bind fun bt280 => ((spec_l3Draw.f kj2 s0_0 bt280.2.2.2.1 bt280.2.2.2.2 (wrap64 (a1 - 1))).bind fun bt293 => ((spec_l3Labeled.f kj2 4 (([(⟨#[112]⟩ : ByteArray), (⟨#[113]⟩ : ByteArray)] : List ByteArray)) (([(⟨bt280.1, bt280.2.1, bt280.2.2.1⟩ : S30), (⟨bt293.1, bt293.2.1, bt293.2.2.1⟩ : S30)] : List (S30)))).bind fun bt305 => (some (bt305.1, bt305.2.1, bt305.2.2, bt293.2.2.2.1, bt293.2.2.2.2))))) else (if t261 = 2 then ((spec_l3Draw.f kj2 s0_0 t262 t263 (wrap64 (a1 - 1))).bind fun bt312 => ((spec_l3Labeled.f kj2 3 (([(⟨#[97]⟩ : ByteArray), (⟨#[98]⟩ : ByteArray)] : List ByteArray)) (([(⟨bt312.1, bt312.2.1, bt312.2.2.1⟩ : S30), (⟨bt312.1, bt312.2.1, bt312.2.2.1⟩ : S30)] : List (S30)))).bind fun bt328 => (some (bt328.1, bt328.2.1, bt328.2.2, bt312.2.2.2.1, bt312.2.2.2.2)))) else ((spec_l3Draw.f kj2 s0_0 t262 t263 (wrap64 (a1 - 1))).bind fun bt335 => ((spec_l3Draw.f kj2 s0_0 bt335.2.2.2.1 bt335.2.2.2.2 (wrap64 (a1 - 1))).bind fun bt348 => ((spec_l3Labeled.f kj2 3 (([(⟨#[97]⟩ : ByteArray), (⟨#[98]⟩ : ByteArray)] : List ByteArray)) (([(⟨bt335.1, bt335.2.1, bt335.2.2.1⟩ : S30), (⟨bt348.1, bt348.2.1, bt348.2.2.1⟩ : S30)] : List (S30)))).bind fun bt360 => (some (bt360.1, bt360.2.1, bt360.2.2, bt348.2.2.2.1, bt348.2.2.2.2)))))))) = some (r1, r2, r3, r4, r5) := H
    have A16 := Aside0.mk A160
    clear A160
    by_cases c17 : t261 = 0
    ·rw [if_pos c17] at H
     have c17b0 : (t261 == 0) = true := beq_iff_eq.mpr c17
     have c17b1 : (t261 != 0) = false := bne_eq_false_iff_eq.mpr c17
     clear c17
     replace H := Option.bind_eq_some_iff.mp H
     obtain ⟨⟨t264, t265, t268, t271, t272⟩, A180, H⟩ := H
     replace H : ((spec_l3List.f kj2 t264 t265 t268).bind fun bt273 => (some (bt273.1, bt273.2.1, bt273.2.2, t271, t272))) = some (r1, r2, r3, r4, r5) := H
     have A18 := Aside0.mk A180
     clear A180
     replace H := Option.bind_eq_some_iff.mp H
     obtain ⟨⟨t273, t274, t277⟩, A190, H⟩ := H
     replace H : (some (t273, t274, t277, t271, t272)) = some (r1, r2, r3, r4, r5) := H
     have A19 := Aside0.mk A190
     clear A190
     simp only [Option.some.injEq, Prod.mk.injEq] at H
     obtain ⟨rfl, rfl, rfl, rfl, rfl⟩ := H
     go_wp2_with (first | ((with_reducible refine gate_callee (f := 74) rfl ?_); refine goesL_ (some 19) rfl rfl Try.func74 (by kernel_rfl) rfl #[.pointer (some ⟨g, 0, none⟩), .int .i64 4] rfl ma_ ?_; (with_reducible refine (spec_l1Below.calls g s0_0 x1001_2 x1002_2 4 t261 t262 t263 w0 _ ?side1 ?side2 A16.out).mono ?_); (case side1 => repeat (first | (with_reducible first | exact HI0.out | apply IsS81.alloc | apply IsS81.drewN | apply IsS81.drew | apply IsS81.set_1 | apply IsS81.set_2 | refine IsS81.far ?_ NB0_251.out _) | exact HI0.out)); (case side2 => repeat (first | (with_reducible first | exact HB.out | apply below_alloc | apply pw_below_drewN | apply below_drew1 | refine below_set ?_ (IsS81.ge HI0.out) | refine below_set ?_ GE251.out) | exact HB.out)); rintro e w20 ⟨rfl, hi, hb, hk⟩; refine ⟨_, rfl, ?_⟩; replace BK251 := Aside0.mk (KeepBut.blk hk (g' := gb251) (o := .cells #[.int .i64 0, .slice none 0 0, .slice none 0 0] 30 (0, 0)) (K_ BK251.out) NB251_0.out (by simp)); replace HK := Aside0.mk (KeepBut.trans (G1_ HK.out GW251.out) hk (.inl rfl)); replace HB := Aside0.mk (hb); replace HI0 := Aside0.mk (hi); (try clear hb); (try clear hb2); (try clear hk); (try clear hi)) | ((with_reducible refine gate_callee (f := 73) rfl ?_); refine goesL_ (some 25) rfl rfl Try.func73 (by kernel_rfl) rfl #[.pointer (some ⟨g, 0, none⟩), .int .i64 (wrap64 (a1 - 1))] rfl ma_ ?_; (with_reducible refine (ih kj2 (by have := HJ2.out; omega) g s0_0 t262 t263 (wrap64 (a1 - 1)) t264 t265 t268 t271 t272 w0 _ ?side1 ?side2 A18.out).mono ?_); (case side1 => repeat (first | (with_reducible first | exact HI0.out | apply IsS81.alloc | apply IsS81.drewN | apply IsS81.drew | apply IsS81.set_1 | apply IsS81.set_2 | refine IsS81.far ?_ NB0_251.out _) | exact HI0.out)); (case side2 => repeat (first | (with_reducible first | exact HB.out | apply below_alloc | apply pw_below_drewN | apply below_drew1 | refine below_set ?_ (IsS81.ge HI0.out) | refine below_set ?_ GE251.out) | exact HB.out)); rintro e w21 ⟨v266, v269, rfl, ho0, ho1, hi, hb, hk⟩; refine ⟨_, rfl, ?_⟩; have HO267 := Aside0.mk (Kd.R_lower (Kd.R_newM (M := fun k_ => (w.heap.size ≤ k_)) (Kd.R_mono (ok' := fun k_ => True) ho0 (fun _ hk_ => trivial)) (keep_size (w := w) (g := g) (row := none) (G1_ HK.out GW251.out)) (fun k_ h_ => h_)) (keep_size (w := w) (g := g) (row := none) (G1_ HK.out GW251.out))); have HO270 := Aside0.mk (Kd.N_lower (Kd.N_mono (ok' := fun k_ => (w.heap.size ≤ k_) ∧ some k_ ≠ (v266 : Value).ownBlock ∧ k_ ≠ gb251 ∧ k_ ≠ g) ho1 (fun k_ hk_ => ⟨(Nat.le_trans (keep_size (w := w) (g := g) (row := none) (G1_ HK.out GW251.out)) hk_.1), hk_.2, (Kd.freshB (K_ BK251.out) k_ hk_.1), (IsS81.fresh (i81a1_ HI0.out NB0_251.out) k_ hk_.1)⟩)) (keep_size (w := w) (g := g) (row := none) (G1_ HK.out GW251.out))); replace BK251 := Aside0.mk (KeepBut.blk hk (g' := gb251) (o := .cells #[.int .i64 0, .slice none 0 0, .slice none 0 0] 30 (0, 0)) (K_ BK251.out) NB251_0.out (by simp)); replace HK := Aside0.mk (KeepBut.trans (G1_ HK.out GW251.out) hk (.inl rfl)); replace HB := Aside0.mk (hb); replace HI0 := Aside0.mk (hi); (try clear hb); (try clear hb2); (try clear hk); (try clear hi); (try clear ho0); (try clear ho1); obtain ⟨Ao22, co22, eo22⟩ := Kd.R_slice HO267.out; subst eo22; obtain ⟨Ao23, co23, eo23⟩ := Kd.N_slice HO270.out; subst eo23) | ((with_reducible refine gate_callee (f := 76) rfl ?_); refine goesL_ (some 26) rfl rfl Try.func76 (by kernel_rfl) rfl #[.agg #[.int .i64 t264, .slice Ao22 t265.length co22, .slice Ao23 t268.length co23]] rfl ma_ ?_; (with_reducible refine (spec_l3List.calls kj2 t264 _ _ t265 _ _ t268 t273 t274 t277 _ ?side1 ?side2 ?side3 ?side4 A19.out).mono ?_); (case side1 => exact crb_ HO267); (case side2 => exact lrb_ HO267); (case side3 => exact cnb_ HO270); (case side4 => exact lnb_ HO270); rintro e w24 ⟨v275, v278, rfl, ho0, ho1, hb⟩; refine ⟨_, rfl, ?_⟩; have HO276 := Aside0.mk (Kd.R_lower (Kd.R_new' (Kd.R_newM (M := fun k_ => (w.heap.size ≤ k_)) (Kd.R_mono (ok' := fun k_ => True) ho0 (fun _ hk_ => trivial)) (keep_size (w := w) (g := g) (row := none) (G1_ HK.out GW251.out)) (fun k_ h_ => h_)) (Kd.R_lt (R_ HO267.out))) (keep_size (w := w) (g := g) (row := none) (G1_ HK.out GW251.out))); have HO279 := Aside0.mk (Kd.N_lower (Kd.N_mono (ok' := fun k_ => (w.heap.size ≤ k_) ∧ some k_ ≠ (v275 : Value).ownBlock ∧ some k_ ≠ (.slice Ao22 t265.length co22 : Value).ownBlock ∧ some k_ ≠ (.slice Ao23 t268.length co23 : Value).ownBlock ∧ k_ ≠ gb251 ∧ k_ ≠ g) ho1 (fun k_ hk_ => ⟨(Nat.le_trans (keep_size (w := w) (g := g) (row := none) (G1_ HK.out GW251.out)) hk_.1), hk_.2, (Kd.fresh' (Kd.R_lt (R_ HO267.out)) k_ hk_.1), (Kd.fresh' (Kd.N_lt (N_ HO270.out)) k_ hk_.1), (Kd.freshB (K_ BK251.out) k_ hk_.1), (IsS81.fresh (i81a1_ HI0.out NB0_251.out) k_ hk_.1)⟩)) (keep_size (w := w) (g := g) (row := none) (G1_ HK.out GW251.out))); replace HO267 := Aside0.mk (Kd.R_elder' (R_ HO267.out) (Kd.R_base ho0) hb); replace HO270 := Aside0.mk (Kd.N_mono (Kd.N_told (Kd.N_told (Kd.N_old (N_ HO270.out) hb) (Kd.R_base ho0)) (Kd.N_base ho1)) (fun _ h_ => h_.1)); replace BK251 := kb_ BK251 hb; replace HK := Aside0.mk (KeepBut.trans (G1_ HK.out GW251.out) (KeepBut.of_below hb g none) (.inl rfl)); replace HB := Aside0.mk (below_step (B2_ HB.out (IsS81.ge HI0.out) GE251.out) hb); replace HI0 := Aside0.mk (IsS81.below (i81a1_ HI0.out NB0_251.out) hb); (try clear hb); (try clear hb2); (try clear hk); (try clear hi); (try clear ho0); (try clear ho1); have hnb25 := NB251_0.out; have hnc25 := NB0_251.out; obtain ⟨hcz26_0, hcz26_1, hcz26_2, hfz26_0, hfz26_1, hfz26_2⟩ := box3_ BK251.out; obtain ⟨Ao27, co27, eo27⟩ := Kd.R_slice HO276.out; subst eo27; obtain ⟨Ao28, co28, eo28⟩ := Kd.N_slice HO279.out; subst eo28))
     refine bodyPost_ret (results_cell_row rfl _ _ gb251 30 #[.int .i64 t273, .slice Ao27 t274.length co27, .slice Ao28 t277.length co28] (0, 0) _ rfl (by (with_reducible repeat (first | refine blk_drewN ?_ _ | refine blk_drew ?_ | refine blk_alloc ?_ _)); refine blk_put (cs := #[.int .i64 t273, .slice Ao27 t274.length co27, .slice none 0 0]) ?_ 2 _ rfl; (with_reducible repeat (first | refine blk_drewN ?_ _ | refine blk_drew ?_ | refine blk_alloc ?_ _)); refine blk_put (cs := #[.int .i64 t273, .slice none 0 0, .slice none 0 0]) ?_ 1 _ rfl; (with_reducible repeat (first | refine blk_drewN ?_ _ | refine blk_drew ?_ | refine blk_alloc ?_ _)); refine blk_put (cs := #[.int .i64 0, .slice none 0 0, .slice none 0 0]) ?_ 0 _ rfl; (with_reducible repeat (first | refine blk_drewN ?_ _ | refine blk_drew ?_ | refine blk_alloc ?_ _)); exact BK251.out) Try.underlying30 rfl (by kernel_rfl)) rfl ?_
     exact ⟨_, _, er_, by (with_reducible repeat (first | apply Kd.R_alloc | apply Kd.R_drewN | apply Kd.R_drew)); exact Kd.R_mono (Kd.R_far (p := ⟨gb251, 2, none⟩) (Kd.R_far (p := ⟨gb251, 1, none⟩) (Kd.R_far (p := ⟨gb251, 0, none⟩) (Kd.R_types HO276.out BK251.out (by decide)) (fun _ hk => hk.2) (.int .i64 t273)) (fun _ hk => hk.2) (.slice Ao27 t274.length co27)) (fun _ hk => hk.2) (.slice Ao28 t277.length co28)) (fun _ hk => hk.1.1.1), by (with_reducible repeat (first | apply Kd.N_alloc | apply Kd.N_drewN | apply Kd.N_drew)); exact Kd.N_mono (Kd.N_far (p := ⟨gb251, 2, none⟩) (Kd.N_far (p := ⟨gb251, 1, none⟩) (Kd.N_far (p := ⟨gb251, 0, none⟩) (Kd.N_mono HO279.out (fun k_ hk => (⟨hk, hk.2.2.2.2.1⟩ : _ ∧ k_ ≠ gb251))) (fun _ hk => hk.2) (.int .i64 t273)) (fun _ hk => hk.2) (.slice Ao27 t274.length co27)) (fun _ hk => hk.2) (.slice Ao28 t277.length co28)) (fun _ hk => ⟨hk.1.1, hk.1.2.1⟩), i81a1_ HI0.out NB0_251.out, B2_ HB.out (IsS81.ge HI0.out) GE251.out, G1_ HK.out GW251.out⟩
    ·rw [if_neg c17] at H
     have c17b0 : (t261 == 0) = false := beq_eq_false_iff_ne.mpr c17
     have c17b1 : (t261 != 0) = true := bne_iff_ne.mpr c17
     by_cases c29 : t261 = 1
     ·rw [if_pos c29] at H
      have c29b0 : (t261 == 1) = true := beq_iff_eq.mpr c29
      have c29b1 : (t261 != 1) = false := bne_eq_false_iff_eq.mpr c29
      clear c29
      replace H := Option.bind_eq_some_iff.mp H
      obtain ⟨⟨t280, t281, t284, t287, t288⟩, A300, H⟩ := H
      replace H : ((spec_l3Draw.f kj2 s0_0 t287 t288 (wrap64 (a1 - 1))).bind fun bt293 => ((spec_l3Labeled.f kj2 4 (([(⟨#[112]⟩ : ByteArray), (⟨#[113]⟩ : ByteArray)] : List ByteArray)) (([(⟨t280, t281, t284⟩ : S30), (⟨bt293.1, bt293.2.1, bt293.2.2.1⟩ : S30)] : List (S30)))).bind fun bt305 => (some (bt305.1, bt305.2.1, bt305.2.2, bt293.2.2.2.1, bt293.2.2.2.2)))) = some (r1, r2, r3, r4, r5) := H
      have A30 := Aside0.mk A300
      clear A300
      obtain ⟨y290, hy290⟩ : ∃ y_ : List ByteArray, y_ = (([(⟨#[112]⟩ : ByteArray), (⟨#[113]⟩ : ByteArray)] : List ByteArray)) := ⟨_, rfl⟩
      replace H : ((spec_l3Draw.f kj2 s0_0 t287 t288 (wrap64 (a1 - 1))).bind fun bt293 => ((spec_l3Labeled.f kj2 4 y290 (([(⟨t280, t281, t284⟩ : S30), (⟨bt293.1, bt293.2.1, bt293.2.2.1⟩ : S30)] : List (S30)))).bind fun bt305 => (some (bt305.1, bt305.2.1, bt305.2.2, bt293.2.2.2.1, bt293.2.2.2.2)))) = some (r1, r2, r3, r4, r5) := by first | (rw [hy290]; with_reducible exact H) | (have H2_ := (Option.bind_some _ _).symm.trans H; rw [hy290]; with_reducible exact H2_) | (have H2_ := (Option.bind_some _ _).symm.trans H; with_reducible exact H2_) | with_reducible exact H | (rw [hy290]; exact H) | exact H
      have Ny290 := Aside0.mk hy290
      clear hy290
      replace H := Option.bind_eq_some_iff.mp H
      obtain ⟨⟨t293, t294, t297, t300, t301⟩, A310, H⟩ := H
      replace H : ((spec_l3Labeled.f kj2 4 y290 (([(⟨t280, t281, t284⟩ : S30), (⟨t293, t294, t297⟩ : S30)] : List (S30)))).bind fun bt305 => (some (bt305.1, bt305.2.1, bt305.2.2, t300, t301))) = some (r1, r2, r3, r4, r5) := H
      have A31 := Aside0.mk A310
      clear A310
      obtain ⟨y302, hy302⟩ : ∃ y_ : List (S30), y_ = (([(⟨t280, t281, t284⟩ : S30), (⟨t293, t294, t297⟩ : S30)] : List (S30))) := ⟨_, rfl⟩
      replace H : ((spec_l3Labeled.f kj2 4 y290 y302).bind fun bt305 => (some (bt305.1, bt305.2.1, bt305.2.2, t300, t301))) = some (r1, r2, r3, r4, r5) := by first | (rw [hy302]; with_reducible exact H) | (have H2_ := (Option.bind_some _ _).symm.trans H; rw [hy302]; with_reducible exact H2_) | (have H2_ := (Option.bind_some _ _).symm.trans H; with_reducible exact H2_) | with_reducible exact H | (rw [hy302]; exact H) | exact H
      have Ny302 := Aside0.mk hy302
      clear hy302
      replace H := Option.bind_eq_some_iff.mp H
      obtain ⟨⟨t305, t306, t309⟩, A320, H⟩ := H
      replace H : (some (t305, t306, t309, t300, t301)) = some (r1, r2, r3, r4, r5) := H
      have A32 := Aside0.mk A320
      clear A320
      simp only [Option.some.injEq, Prod.mk.injEq] at H
      obtain ⟨rfl, rfl, rfl, rfl, rfl⟩ := H
      try go_wp2_with (first | ((with_reducible refine gate_callee (f := 74) rfl ?_); refine goesL_ (some 19) rfl rfl Try.func74 (by kernel_rfl) rfl #[.pointer (some ⟨g, 0, none⟩), .int .i64 4] rfl ma_ ?_; (with_reducible refine (spec_l1Below.calls g s0_0 x1001_2 x1002_2 4 t261 t262 t263 w0 _ ?side1 ?side2 A16.out).mono ?_); (case side1 => repeat (first | (with_reducible first | exact HI0.out | apply IsS81.alloc | apply IsS81.drewN | apply IsS81.drew | apply IsS81.set_1 | apply IsS81.set_2 | refine IsS81.far ?_ NB0_251.out _) | exact HI0.out)); (case side2 => repeat (first | (with_reducible first | exact HB.out | apply below_alloc | apply pw_below_drewN | apply below_drew1 | refine below_set ?_ (IsS81.ge HI0.out) | refine below_set ?_ GE251.out) | exact HB.out)); rintro e w33 ⟨rfl, hi, hb, hk⟩; refine ⟨_, rfl, ?_⟩; replace BK251 := Aside0.mk (KeepBut.blk hk (g' := gb251) (o := .cells #[.int .i64 0, .slice none 0 0, .slice none 0 0] 30 (0, 0)) (K_ BK251.out) NB251_0.out (by simp)); replace HK := Aside0.mk (KeepBut.trans (G1_ HK.out GW251.out) hk (.inl rfl)); replace HB := Aside0.mk (hb); replace HI0 := Aside0.mk (hi); (try clear hb); (try clear hb2); (try clear hk); (try clear hi)) | ((with_reducible refine gate_callee (f := 73) rfl ?_); refine goesL_ (some 32) rfl rfl Try.func73 (by kernel_rfl) rfl #[.pointer (some ⟨g, 0, none⟩), .int .i64 (wrap64 (a1 - 1))] rfl ma_ ?_; (with_reducible refine (ih kj2 (by have := HJ2.out; omega) g s0_0 t262 t263 (wrap64 (a1 - 1)) t280 t281 t284 t287 t288 w0 _ ?side1 ?side2 A30.out).mono ?_); (case side1 => repeat (first | (with_reducible first | exact HI0.out | apply IsS81.alloc | apply IsS81.drewN | apply IsS81.drew | apply IsS81.set_1 | apply IsS81.set_2 | refine IsS81.far ?_ NB0_251.out _) | exact HI0.out)); (case side2 => repeat (first | (with_reducible first | exact HB.out | apply below_alloc | apply pw_below_drewN | apply below_drew1 | refine below_set ?_ (IsS81.ge HI0.out) | refine below_set ?_ GE251.out) | exact HB.out)); rintro e w34 ⟨v282, v285, rfl, ho0, ho1, hi, hb, hk⟩; refine ⟨_, rfl, ?_⟩; have HO283 := Aside0.mk (Kd.R_lower (Kd.R_newM (M := fun k_ => (w.heap.size ≤ k_)) (Kd.R_mono (ok' := fun k_ => True) ho0 (fun _ hk_ => trivial)) (keep_size (w := w) (g := g) (row := none) (G1_ HK.out GW251.out)) (fun k_ h_ => h_)) (keep_size (w := w) (g := g) (row := none) (G1_ HK.out GW251.out))); have HO286 := Aside0.mk (Kd.N_lower (Kd.N_mono (ok' := fun k_ => (w.heap.size ≤ k_) ∧ some k_ ≠ (v282 : Value).ownBlock ∧ k_ ≠ gb251 ∧ k_ ≠ g) ho1 (fun k_ hk_ => ⟨(Nat.le_trans (keep_size (w := w) (g := g) (row := none) (G1_ HK.out GW251.out)) hk_.1), hk_.2, (Kd.freshB (K_ BK251.out) k_ hk_.1), (IsS81.fresh (i81a1_ HI0.out NB0_251.out) k_ hk_.1)⟩)) (keep_size (w := w) (g := g) (row := none) (G1_ HK.out GW251.out))); replace BK251 := Aside0.mk (KeepBut.blk hk (g' := gb251) (o := .cells #[.int .i64 0, .slice none 0 0, .slice none 0 0] 30 (0, 0)) (K_ BK251.out) NB251_0.out (by simp)); replace HK := Aside0.mk (KeepBut.trans (G1_ HK.out GW251.out) hk (.inl rfl)); replace HB := Aside0.mk (hb); replace HI0 := Aside0.mk (hi); (try clear hb); (try clear hb2); (try clear hk); (try clear hi); (try clear ho0); (try clear ho1)) | ((with_reducible refine gate_dst (N := 5) rfl ?_); refine box_event ?hg (N := 5) ?hd (cs := #[.int .i64 0, .slice none 0 0, .slice none 0 0]) (t := 30) ?hr ?_; (case hd => rfl); (case hg => rfl); (case hr => first | (go_simp; done) | (go_simp; rfl)); intro gb289 hg w35 hbox hb; replace HO283 := rb_ HO283 hb; replace HO286 := Aside0.mk (Kd.N_below (Kd.N_elderB (N_ HO286.out) gb289 (Nat.le_of_eq hg.symm)) hb); replace HB := Aside0.mk (below_step (B2_ HB.out (IsS81.ge HI0.out) GE251.out) hb); have BK289 := Aside0.mk (hbox); have GW289 := Aside0.mk ((by rw [hg]; exact (keep_size (w := w) (g := g) (row := none) (G1_ HK.out GW251.out)) : w.heap.size ≤ gb289)); have GE289 := Aside0.mk ((Nat.le_trans HW0.out (by rw [hg]; exact (keep_size (w := w) (g := g) (row := none) (G1_ HK.out GW251.out)) : w.heap.size ≤ gb289) : w0.heap.size ≤ gb289)); replace HK := Aside0.mk (KeepBut.trans (G1_ HK.out GW251.out) (KeepBut.of_below hb g none) (.inl rfl)); have NB251_289 := Aside0.mk ((by rw [hg]; exact Nat.ne_of_lt (blk_lt (K_ BK251.out)) : gb251 ≠ gb289)); have NB289_251 := Aside0.mk ((by rw [hg]; exact Nat.ne_of_gt (blk_lt (K_ BK251.out)) : gb289 ≠ gb251)); replace BK251 := kb_ BK251 hb; have NB0_289 := Aside0.mk ((by rw [hg]; exact Nat.ne_of_lt (IsS81.lt (show IsS81 w0 _ g s0_0 t287 t288 from i81a1_ HI0.out NB0_251.out)) : g ≠ gb289)); have NB289_0 := Aside0.mk ((by rw [hg]; exact Nat.ne_of_gt (IsS81.lt (show IsS81 w0 _ g s0_0 t287 t288 from i81a1_ HI0.out NB0_251.out)) : gb289 ≠ g)); replace HI0 := Aside0.mk (IsS81.below (i81a1_ HI0.out NB0_251.out) hb); clear hb hbox hg; have hnb36 := NB289_251.out; have hnc36 := NB251_289.out; have hnb37 := NB289_0.out; have hnc37 := NB0_289.out; obtain ⟨hcz38_0, hcz38_1, hcz38_2, hfz38_0, hfz38_1, hfz38_2⟩ := box3_ BK289.out; obtain ⟨Ao39, co39, eo39⟩ := Kd.R_slice HO283.out; subst eo39; obtain ⟨Ao40, co40, eo40⟩ := Kd.N_slice HO286.out; subst eo40))
      have n0_ : Aside0 (Kd.R Kd.string 9 (((w35.setCell ⟨gb289, 0, none⟩ (.int .i64 t280)).setCell ⟨gb289, 1, none⟩ (.slice Ao39 t281.length co39)).setCell ⟨gb289, 2, none⟩ (.slice Ao40 t284.length co40)) w.heap.size (fun k_ => (w.heap.size ≤ k_)) (.slice Ao39 t281.length co39) t281) := ⟨by (with_reducible repeat (first | apply Kd.R_alloc | apply Kd.R_drewN | apply Kd.R_drew)); exact Kd.R_mono (Kd.R_far (p := ⟨gb289, 2, none⟩) (Kd.R_far (p := ⟨gb289, 1, none⟩) (Kd.R_far (p := ⟨gb289, 0, none⟩) (Kd.R_types HO283.out BK289.out (by decide)) (fun _ hk => hk.2) (.int .i64 t280)) (fun _ hk => hk.2) (.slice Ao39 t281.length co39)) (fun _ hk => hk.2) (.slice Ao40 t284.length co40)) (fun _ hk => hk.1.1)⟩
      have n1_ : Aside0 (Kd.N k30 30 (((w35.setCell ⟨gb289, 0, none⟩ (.int .i64 t280)).setCell ⟨gb289, 1, none⟩ (.slice Ao39 t281.length co39)).setCell ⟨gb289, 2, none⟩ (.slice Ao40 t284.length co40)) w.heap.size (fun k_ => (w.heap.size ≤ k_) ∧ some k_ ≠ (.slice Ao39 t281.length co39 : Value).ownBlock ∧ k_ ≠ gb251 ∧ k_ ≠ g ∧ k_ ≠ gb289) (.slice Ao40 t284.length co40) t284) := ⟨by (with_reducible repeat (first | apply Kd.N_alloc | apply Kd.N_drewN | apply Kd.N_drew)); exact Kd.N_mono (Kd.N_far (p := ⟨gb289, 2, none⟩) (Kd.N_far (p := ⟨gb289, 1, none⟩) (Kd.N_far (p := ⟨gb289, 0, none⟩) (Kd.N_mono HO286.out (fun k_ hk => (⟨hk, hk.2⟩ : _ ∧ k_ ≠ gb289))) (fun _ hk => hk.2) (.int .i64 t280)) (fun _ hk => hk.2) (.slice Ao39 t281.length co39)) (fun _ hk => hk.2) (.slice Ao40 t284.length co40)) (fun _ hk => ⟨hk.1.1.1, ⟨hk.1.1.2.1, ⟨hk.1.1.2.2.1, ⟨hk.1.1.2.2.2, hk.1.2⟩⟩⟩⟩)⟩
      have n2_ : Aside0 ((((w35.setCell ⟨gb289, 0, none⟩ (.int .i64 t280)).setCell ⟨gb289, 1, none⟩ (.slice Ao39 t281.length co39)).setCell ⟨gb289, 2, none⟩ (.slice Ao40 t284.length co40)).heap[gb251]? = some (.cells #[.int .i64 0, .slice none 0 0, .slice none 0 0] 30 (0, 0))) := ⟨by (with_reducible repeat (first | refine blk_drewN ?_ _ | refine blk_drew ?_ | refine blk_alloc ?_ _)); refine blk_far ?_ NB251_289.out _; (with_reducible repeat (first | refine blk_drewN ?_ _ | refine blk_drew ?_ | refine blk_alloc ?_ _)); refine blk_far ?_ NB251_289.out _; (with_reducible repeat (first | refine blk_drewN ?_ _ | refine blk_drew ?_ | refine blk_alloc ?_ _)); refine blk_far ?_ NB251_289.out _; (with_reducible repeat (first | refine blk_drewN ?_ _ | refine blk_drew ?_ | refine blk_alloc ?_ _)); exact BK251.out⟩
      have n3_ : Aside0 ((((w35.setCell ⟨gb289, 0, none⟩ (.int .i64 t280)).setCell ⟨gb289, 1, none⟩ (.slice Ao39 t281.length co39)).setCell ⟨gb289, 2, none⟩ (.slice Ao40 t284.length co40)).heap[gb289]? = some (.cells #[.int .i64 t280, .slice Ao39 t281.length co39, .slice Ao40 t284.length co40] 30 (0, 0))) := ⟨by (with_reducible repeat (first | refine blk_drewN ?_ _ | refine blk_drew ?_ | refine blk_alloc ?_ _)); refine blk_put (cs := #[.int .i64 t280, .slice Ao39 t281.length co39, .slice none 0 0]) ?_ 2 _ rfl; (with_reducible repeat (first | refine blk_drewN ?_ _ | refine blk_drew ?_ | refine blk_alloc ?_ _)); refine blk_put (cs := #[.int .i64 t280, .slice none 0 0, .slice none 0 0]) ?_ 1 _ rfl; (with_reducible repeat (first | refine blk_drewN ?_ _ | refine blk_drew ?_ | refine blk_alloc ?_ _)); refine blk_put (cs := #[.int .i64 0, .slice none 0 0, .slice none 0 0]) ?_ 0 _ rfl; (with_reducible repeat (first | refine blk_drewN ?_ _ | refine blk_drew ?_ | refine blk_alloc ?_ _)); exact BK289.out⟩
      have n4_ : Aside0 (IsS81 w0 (((w35.setCell ⟨gb289, 0, none⟩ (.int .i64 t280)).setCell ⟨gb289, 1, none⟩ (.slice Ao39 t281.length co39)).setCell ⟨gb289, 2, none⟩ (.slice Ao40 t284.length co40)) g s0_0 t287 t288) := ⟨i81a2_ HI0.out NB0_251.out NB0_289.out⟩
      have n5_ : Aside0 (KeepBut w (((w35.setCell ⟨gb289, 0, none⟩ (.int .i64 t280)).setCell ⟨gb289, 1, none⟩ (.slice Ao39 t281.length co39)).setCell ⟨gb289, 2, none⟩ (.slice Ao40 t284.length co40)) g none) := ⟨G2_ HK.out GW251.out GW289.out⟩
      have n6_ : Aside0 (Below w0.heap.size w0 (((w35.setCell ⟨gb289, 0, none⟩ (.int .i64 t280)).setCell ⟨gb289, 1, none⟩ (.slice Ao39 t281.length co39)).setCell ⟨gb289, 2, none⟩ (.slice Ao40 t284.length co40))) := ⟨B3_ HB.out (IsS81.ge HI0.out) GE251.out GE289.out⟩
      (try clear HO283)
      (try clear HO286)
      (try clear BK251)
      (try clear BK289)
      (try clear HI0)
      (try clear HK)
      (try clear HB)
      generalize (((w35.setCell ⟨gb289, 0, none⟩ (.int .i64 t280)).setCell ⟨gb289, 1, none⟩ (.slice Ao39 t281.length co39)).setCell ⟨gb289, 2, none⟩ (.slice Ao40 t284.length co40)) = w41 at n0_ n1_ n2_ n3_ n4_ n5_ n6_ ⊢
      have HO283 := n0_
      have HO286 := n1_
      have BK251 := n2_
      have BK289 := n3_
      have HI0 := n4_
      have HK := n5_
      have HB := n6_
      clear n0_ n1_ n2_ n3_ n4_ n5_ n6_
      replace HO283 := Aside0.mk (Kd.R_drew HO283.out)
      replace HO286 := Aside0.mk (Kd.N_drew HO286.out)
      replace BK251 := Aside0.mk (blk_drew BK251.out)
      replace BK289 := Aside0.mk (blk_drew BK289.out)
      replace HI0 := Aside0.mk (IsS81.drew HI0.out)
      replace HK := Aside0.mk (keep_drew HK.out)
      replace HB := Aside0.mk (below_drew1 HB.out)
      refine start_ (n := 9) (S := fun w' => w'.cell? ⟨gb289, 0, none⟩ = some (.int .i64 t280) ∧ w'.cell? ⟨gb289, 1, none⟩ = some (.slice Ao39 t281.length co39) ∧ w'.cell? ⟨gb289, 2, none⟩ = some (.slice Ao40 t284.length co40)) (ds := []) #[false, false, false, false, false, false, false, false, false] (by kernel_rfl) rfl rfl ⟨(blk_cell BK289.out 0).trans rfl, (blk_cell BK289.out 1).trans rfl, (blk_cell BK289.out 2).trans rfl⟩ (fun hHeld => ?_); refine with_tabW spec_l3Draw.tab8 spec_l3Draw.bits8 (fun HT_ HW_ => ?_)
      generalize w41.drew = w42 at HO283 HO286 BK251 BK289 HI0 HK HB hHeld ⊢
      refine pu_ HT_ (i := 2) (N := some 35) (mk_ 9 4) rfl rfl ?_
      refine pu_ HT_ (i := 3) (N := some 36) (mk_ 9 12) rfl rfl ?_
      refine pu_ HT_ (i := 4) (N := some 37) (mk_ 9 28) rfl rfl ?_
      refine tk_ HT_ HW_ hHeld (i := 1) (N := some 34) (mk_ 9 30) rfl rfl ?_
      refine join_ (σ := Value × Value × Value × Value) 2 #[true, true, true, true, true, true, true, false, false] (fun s_ => [(33, s_.1), (38, .agg #[.int .i64 t293, s_.2.1, s_.2.2.1]), (39, s_.2.2.2)]) (fun s_ w' => (w'.cell? ⟨gb289, 0, none⟩ = some (.int .i64 t280) ∧ w'.cell? ⟨gb289, 1, none⟩ = some (.slice Ao39 t281.length co39) ∧ w'.cell? ⟨gb289, 2, none⟩ = some (.slice Ao40 t284.length co40)) ∧ (Kd.R Kd.string 9 w' w.heap.size (fun k_ => (w.heap.size ≤ k_)) s_.1 y290) ∧ (Kd.N k30 30 w' w.heap.size (fun k_ => (w.heap.size ≤ k_) ∧ some k_ ≠ (s_.1 : Value).ownBlock ∧ k_ ≠ g ∧ k_ ≠ gb251 ∧ k_ ≠ gb289) s_.2.2.2 y302) ∧ (w'.heap[gb251]? = some (.cells #[.int .i64 0, .slice none 0 0, .slice none 0 0] 30 (0, 0))) ∧ (w'.heap[gb289]? = some (.cells #[.int .i64 t280, .slice Ao39 t281.length co39, .slice Ao40 t284.length co40] 30 (0, 0))) ∧ (IsS81 w0 w' g s0_0 t300 t301) ∧ (KeepBut w w' g none) ∧ (Below w0.heap.size w0 w')) ?_ ?_
      rotate_left
      ·intro hCont
       refine two_ (i := 0) (j := 5) (Ni := some 33) (Nj := some 38) #[true, true, true, true, true, false, false, false, false] #[false, true, true, true, true, true, false, false, false] rfl rfl rfl rfl (two_of HT_.out (by kernel_rfl)) (by decide) (by decide) (fun K hK => ?_) (fun K hK => ?_)
       ·skip
        refine Kd.R_lit_step Kd.string _ 9 ?hg (N := 33) ?hd (xs := ([(⟨#[112]⟩ : ByteArray), (⟨#[113]⟩ : ByteArray)] : List ByteArray)) (inner := [.string (⟨#[112]⟩ : ByteArray), .string (⟨#[113]⟩ : ByteArray)]) (ok := fun _ => True) (okp := fun _ => True) ?hr ?hp (fun _ hk => hk) trivial (Below.refl _ _) (Nat.le_refl _) (by simp) ?_; (case hd => rfl); (case hg => rfl); (case hr => first | (go_simp; done) | (go_simp; rfl)); (case hp => exact (Reps.one (show Kd.M Kd.string _ _ _ (⟨#[112]⟩ : ByteArray) [.string (⟨#[112]⟩ : ByteArray)] from rfl) (Reps.one (show Kd.M Kd.string _ _ _ (⟨#[113]⟩ : ByteArray) [.string (⟨#[113]⟩ : ByteArray)] from rfl) (Reps.none _ _))))
        intro v291 w43 ho44 hb hg_ hnew_
        clear hg_ hnew_
        (first | rw [← Ny290.out] at ho44 | (simp only [Int.reduceToNat] at ho44; rw [← Ny290.out] at ho44))
        replace HO286 := Aside0.mk (Kd.N_elder' (N_ HO286.out) (Kd.R_base ho44) hb)
        have HO292 := Aside0.mk (Kd.R_lower (Kd.R_new' (Kd.R_newM (M := fun k_ => (w.heap.size ≤ k_)) ho44 (keep_size (w := w) (g := g) (row := none) (G2_ HK.out GW251.out GW289.out)) (fun k_ h_ => h_)) (Kd.R_lt (R_ HO283.out))) (keep_size (w := w) (g := g) (row := none) (G2_ HK.out GW251.out GW289.out)))
        replace HO283 := Aside0.mk (Kd.R_elder' (R_ HO283.out) (Kd.R_base ho44) hb)
        replace BK251 := kb_ BK251 hb
        replace BK289 := kb_ BK289 hb
        replace HK := Aside0.mk (KeepBut.trans (G2_ HK.out GW251.out GW289.out) (KeepBut.of_below hb g none) (.inl rfl))
        replace HB := Aside0.mk (below_step (B3_ HB.out (IsS81.ge HI0.out) GE251.out GE289.out) hb)
        replace HI0 := Aside0.mk (IsS81.below (i81a2_ HI0.out NB0_251.out NB0_289.out) hb)
        clear hb ho44
        refine hK.out _ _ ⟨(blk_cell BK289.out 0).trans rfl, (blk_cell BK289.out 1).trans rfl, (blk_cell BK289.out 2).trans rfl⟩ (fun hHeld => ?_)
        clear hK K
        refine nm_ (some 33) ?_
        refine on_ HT_ (i := 5) (N := some 38) (mk_ 9 63) rfl rfl (fun K hK => ?_)
        refine goes_ Try.func73 (by kernel_rfl) rfl #[.pointer (some ⟨g, 0, none⟩), .int .i64 (wrap64 (a1 - 1))] (by rfl) rfl rfl ma_ ?_
        with_reducible refine (ih kj2 (by have := HJ2.out; omega) g s0_0 t287 t288 (wrap64 (a1 - 1)) t293 t294 t297 t300 t301 w0 _ ?side1 ?side2 A31.out).mono ?_
        (case side1 => repeat (first | (with_reducible first | exact HI0.out | apply IsS81.alloc | apply IsS81.drewN | apply IsS81.drew | apply IsS81.set_1 | apply IsS81.set_2 | refine IsS81.far ?_ NB0_251.out _ | refine IsS81.far ?_ NB0_289.out _) | exact HI0.out))
        (case side2 => repeat (first | (with_reducible first | exact HB.out | apply below_alloc | apply pw_below_drewN | apply below_drew1 | refine below_set ?_ (IsS81.ge HI0.out) | refine below_set ?_ GE251.out | refine below_set ?_ GE289.out) | exact HB.out))
        rintro e w45 ⟨v295, v298, rfl, ho0, ho1, hi, hb, hk⟩
        refine ⟨_, rfl, ?_⟩
        have HO296 := Aside0.mk (Kd.R_lower (Kd.R_new' (Kd.R_new' (Kd.R_newM (M := fun k_ => (w.heap.size ≤ k_)) (Kd.R_mono (ok' := fun k_ => True) ho0 (fun _ hk_ => trivial)) (keep_size (w := w) (g := g) (row := none) (G2_ HK.out GW251.out GW289.out)) (fun k_ h_ => h_)) (Kd.R_lt (R_ HO283.out))) (Kd.R_lt (R_ HO292.out))) (keep_size (w := w) (g := g) (row := none) (G2_ HK.out GW251.out GW289.out)))
        have HO299 := Aside0.mk (Kd.N_lower (Kd.N_mono (ok' := fun k_ => (w.heap.size ≤ k_) ∧ some k_ ≠ (v295 : Value).ownBlock ∧ some k_ ≠ (.slice Ao39 t281.length co39 : Value).ownBlock ∧ some k_ ≠ (.slice Ao40 t284.length co40 : Value).ownBlock ∧ some k_ ≠ (v291 : Value).ownBlock ∧ k_ ≠ gb251 ∧ k_ ≠ gb289 ∧ k_ ≠ g) ho1 (fun k_ hk_ => ⟨(Nat.le_trans (keep_size (w := w) (g := g) (row := none) (G2_ HK.out GW251.out GW289.out)) hk_.1), hk_.2, (Kd.fresh' (Kd.R_lt (R_ HO283.out)) k_ hk_.1), (Kd.fresh' (Kd.N_lt (N_ HO286.out)) k_ hk_.1), (Kd.fresh' (Kd.R_lt (R_ HO292.out)) k_ hk_.1), (Kd.freshB (K_ BK251.out) k_ hk_.1), (Kd.freshB (K_ BK289.out) k_ hk_.1), (IsS81.fresh (i81a2_ HI0.out NB0_251.out NB0_289.out) k_ hk_.1)⟩)) (keep_size (w := w) (g := g) (row := none) (G2_ HK.out GW251.out GW289.out)))
        replace BK251 := Aside0.mk (KeepBut.blk hk (g' := gb251) (o := .cells #[.int .i64 0, .slice none 0 0, .slice none 0 0] 30 (0, 0)) (K_ BK251.out) NB251_0.out (by simp))
        replace HO283 := Aside0.mk (Kd.R_mono (Kd.R_told (Kd.R_oldK (IsS81.apart (show IsS81 w0 _ g s0_0 t287 t288 from i81a2_ HI0.out NB0_251.out NB0_289.out) (R_ HO283.out) (by decide)) hk) (Kd.R_base ho0)) (fun _ h_ => h_.1))
        replace HO286 := Aside0.mk (Kd.N_mono (Kd.N_told (Kd.N_told (Kd.N_oldK (Kd.N_mono (ok := fun k_ => ((((w.heap.size ≤ k_)) ∧ (some k_ ≠ (.slice Ao39 t281.length co39 : Value).ownBlock ∧ (k_ ≠ gb251 ∧ (k_ ≠ g ∧ k_ ≠ gb289)))) ∧ some k_ ≠ (v291 : Value).ownBlock)) (N_ HO286.out) (fun k_ hk_ => (⟨hk_, hk_.1.2.2.2.1⟩ : _ ∧ k_ ≠ g))) hk) (Kd.R_base ho0)) (Kd.N_base ho1)) (fun _ h_ => h_.1))
        replace BK289 := Aside0.mk (KeepBut.blk hk (g' := gb289) (o := .cells #[.int .i64 t280, .slice Ao39 t281.length co39, .slice Ao40 t284.length co40] 30 (0, 0)) (K_ BK289.out) NB289_0.out (by simp))
        replace HO292 := Aside0.mk (Kd.R_mono (Kd.R_told (Kd.R_oldK (IsS81.apart (show IsS81 w0 _ g s0_0 t287 t288 from i81a2_ HI0.out NB0_251.out NB0_289.out) (R_ HO292.out) (by decide)) hk) (Kd.R_base ho0)) (fun _ h_ => h_.1))
        replace HK := Aside0.mk (KeepBut.trans (G2_ HK.out GW251.out GW289.out) hk (.inl rfl))
        replace HB := Aside0.mk (hb)
        replace HI0 := Aside0.mk (hi)
        (try clear hb)
        (try clear hb2)
        (try clear hk)
        (try clear hi)
        (try clear ho0)
        (try clear ho1)
        obtain ⟨Ao46, co46, eo46⟩ := Kd.R_slice HO296.out
        (first | subst eo46 | (injection eo46 with f1_ f2_ f3_; have f4_ := f1_.symm; have f5_ := f3_.symm; clear f1_ f2_ f3_; subst f4_; subst f5_))
        obtain ⟨Ao47, co47, eo47⟩ := Kd.N_slice HO299.out
        (first | subst eo47 | (injection eo47 with f1_ f2_ f3_; have f4_ := f1_.symm; have f5_ := f3_.symm; clear f1_ f2_ f3_; subst f4_; subst f5_))
        refine hK.out _ _ ⟨(blk_cell BK289.out 0).trans rfl, (blk_cell BK289.out 1).trans rfl, (blk_cell BK289.out 2).trans rfl⟩ (fun hHeld => ?_)
        clear hK K
        refine nm_ (some 38) ?_
        refine on_ HT_ (i := 6) (N := some 39) (mk_ 9 127) rfl rfl (fun K hK => ?_)
        refine Kd.N_lit_step k30 _ 30 ?hg (N' := 39) ?hd (xs := ([(⟨t280, t281, t284⟩ : S30), (⟨t293, t294, t297⟩ : S30)] : List (S30))) (inner := [.int .i64 t280, .slice Ao39 t281.length co39, .slice Ao40 t284.length co40, .int .i64 t293, .slice Ao46 t294.length co46, .slice Ao47 t297.length co47]) (ok := (fun k_ => (w.heap.size ≤ k_) ∧ some k_ ≠ (v291 : Value).ownBlock ∧ k_ ≠ gb251 ∧ k_ ≠ gb289 ∧ k_ ≠ g)) (okp := (fun k_ => (w.heap.size ≤ k_) ∧ some k_ ≠ (v291 : Value).ownBlock ∧ k_ ≠ gb251 ∧ k_ ≠ gb289 ∧ k_ ≠ g)) ?hr ?hp (fun _ hk => hk) ((show ∀ k_, w45.heap.size ≤ k_ → (fun k_ => (w.heap.size ≤ k_) ∧ some k_ ≠ (v291 : Value).ownBlock ∧ k_ ≠ gb251 ∧ k_ ≠ gb289 ∧ k_ ≠ g) k_ from fun k_ hk => ⟨(Nat.le_trans (keep_size (w := w) (g := g) (row := none) (G2_ HK.out GW251.out GW289.out)) hk), Kd.fresh' (Kd.R_lt (R_ HO292.out)) k_ hk, Kd.freshB (K_ BK251.out) k_ hk, Kd.freshB (K_ BK289.out) k_ hk, IsS81.fresh (i81a2_ HI0.out NB0_251.out NB0_289.out) k_ hk⟩) _ (Nat.le_refl _)) (Below.refl _ _) (Nat.le_refl _) (by simp) ?_; (case hd => rfl); (case hg => rfl); (case hr => first | (go_simp; done) | (go_simp; rfl)); (case hp => exact (Reps.c3 (show Kd.FK k30 _ _ (⟨t280, t281, t284⟩ : S30) [.int .i64 t280, .slice Ao39 t281.length co39, .slice Ao40 t284.length co40] from (k30_mkF _ _ (⟨t280, t281, t284⟩ : S30) (Kd.R_reads' (Kd.R_mono (ok' := (fun k_ => (w.heap.size ≤ k_) ∧ some k_ ≠ (v291 : Value).ownBlock ∧ k_ ≠ gb251 ∧ k_ ≠ gb289 ∧ k_ ≠ g)) (IsS81.apart HI0.out (Kd.R_types (Kd.R_types (HO283.out) BK251.out (by decide)) BK289.out (by decide)) (by decide)) (fun k_ hk => ⟨hk.1.1.1.1.1, ⟨hk.1.1.1.1.2, ⟨hk.1.1.2, ⟨hk.1.2, hk.2⟩⟩⟩⟩))).2.1 (Kd.R_F (Kd.R_mono (ok' := (fun k_ => (w.heap.size ≤ k_) ∧ some k_ ≠ (v291 : Value).ownBlock ∧ k_ ≠ gb251 ∧ k_ ≠ gb289 ∧ k_ ≠ g)) (IsS81.apart HI0.out (Kd.R_types (Kd.R_types (HO283.out) BK251.out (by decide)) BK289.out (by decide)) (by decide)) (fun k_ hk => ⟨hk.1.1.1.1.1, ⟨hk.1.1.1.1.2, ⟨hk.1.1.2, ⟨hk.1.2, hk.2⟩⟩⟩⟩))) (Kd.N_reads' (Kd.N_mono (ok' := (fun k_ => (w.heap.size ≤ k_) ∧ some k_ ≠ (v291 : Value).ownBlock ∧ k_ ≠ gb251 ∧ k_ ≠ gb289 ∧ k_ ≠ g)) (HO286.out) (fun k_ hk => ⟨hk.1.1.1.1, ⟨hk.1.1.2, ⟨hk.1.1.1.2.2.1, ⟨hk.1.1.1.2.2.2.2, hk.1.1.1.2.2.2.1⟩⟩⟩⟩))).2.1 (Kd.N_F (Kd.N_mono (ok' := (fun k_ => (w.heap.size ≤ k_) ∧ some k_ ≠ (v291 : Value).ownBlock ∧ k_ ≠ gb251 ∧ k_ ≠ gb289 ∧ k_ ≠ g)) (HO286.out) (fun k_ hk => ⟨hk.1.1.1.1, ⟨hk.1.1.2, ⟨hk.1.1.1.2.2.1, ⟨hk.1.1.1.2.2.2.2, hk.1.1.1.2.2.2.1⟩⟩⟩⟩))))) (Reps.c3 (show Kd.FK k30 _ _ (⟨t293, t294, t297⟩ : S30) [.int .i64 t293, .slice Ao46 t294.length co46, .slice Ao47 t297.length co47] from (k30_mkF _ _ (⟨t293, t294, t297⟩ : S30) (Kd.R_reads' (Kd.R_mono (ok' := (fun k_ => (w.heap.size ≤ k_) ∧ some k_ ≠ (v291 : Value).ownBlock ∧ k_ ≠ gb251 ∧ k_ ≠ gb289 ∧ k_ ≠ g)) (IsS81.apart HI0.out (Kd.R_types (Kd.R_types (HO296.out) BK251.out (by decide)) BK289.out (by decide)) (by decide)) (fun k_ hk => ⟨hk.1.1.1.1.1.1, ⟨hk.1.1.1.2, ⟨hk.1.1.2, ⟨hk.1.2, hk.2⟩⟩⟩⟩))).2.1 (Kd.R_F (Kd.R_mono (ok' := (fun k_ => (w.heap.size ≤ k_) ∧ some k_ ≠ (v291 : Value).ownBlock ∧ k_ ≠ gb251 ∧ k_ ≠ gb289 ∧ k_ ≠ g)) (IsS81.apart HI0.out (Kd.R_types (Kd.R_types (HO296.out) BK251.out (by decide)) BK289.out (by decide)) (by decide)) (fun k_ hk => ⟨hk.1.1.1.1.1.1, ⟨hk.1.1.1.2, ⟨hk.1.1.2, ⟨hk.1.2, hk.2⟩⟩⟩⟩))) (Kd.N_reads' (Kd.N_mono (ok' := (fun k_ => (w.heap.size ≤ k_) ∧ some k_ ≠ (v291 : Value).ownBlock ∧ k_ ≠ gb251 ∧ k_ ≠ gb289 ∧ k_ ≠ g)) (HO299.out) (fun k_ hk => ⟨hk.1, ⟨hk.2.2.2.2.1, ⟨hk.2.2.2.2.2.1, ⟨hk.2.2.2.2.2.2.1, hk.2.2.2.2.2.2.2⟩⟩⟩⟩))).2.1 (Kd.N_F (Kd.N_mono (ok' := (fun k_ => (w.heap.size ≤ k_) ∧ some k_ ≠ (v291 : Value).ownBlock ∧ k_ ≠ gb251 ∧ k_ ≠ gb289 ∧ k_ ≠ g)) (HO299.out) (fun k_ hk => ⟨hk.1, ⟨hk.2.2.2.2.1, ⟨hk.2.2.2.2.2.1, ⟨hk.2.2.2.2.2.2.1, hk.2.2.2.2.2.2.2⟩⟩⟩⟩))))) (Reps.none _ _))))
        intro v303 w48 ho49 hb hg_ hnew_
        clear hg_ hnew_
        (first | rw [← Ny302.out] at ho49 | (simp only [Int.reduceToNat] at ho49; rw [← Ny302.out] at ho49))
        replace HO292 := rb_ HO292 hb
        have HO304 := Aside0.mk (Kd.N_lower ho49 (keep_size (w := w) (g := g) (row := none) (G2_ HK.out GW251.out GW289.out)))
        replace BK251 := kb_ BK251 hb
        replace BK289 := kb_ BK289 hb
        replace HK := Aside0.mk (KeepBut.trans (G2_ HK.out GW251.out GW289.out) (KeepBut.of_below hb g none) (.inl rfl))
        replace HB := Aside0.mk (below_step (B3_ HB.out (IsS81.ge HI0.out) GE251.out GE289.out) hb)
        replace HI0 := Aside0.mk (IsS81.below (i81a2_ HI0.out NB0_251.out NB0_289.out) hb)
        clear HO283 HO286 HO296 HO299
        clear hb ho49
        refine hK.out _ _ ⟨(blk_cell BK289.out 0).trans rfl, (blk_cell BK289.out 1).trans rfl, (blk_cell BK289.out 2).trans rfl⟩ (fun hHeld => ?_)
        clear hK K
        refine nm_ (some 39) ?_
        exact norm_ (by simp only [putAll, Act.put, List.setIfInBounds_toArray, List.set_cons_zero, List.set_cons_succ]) (hCont (v291, .slice Ao46 t294.length co46, .slice Ao47 t297.length co47, v303) _ ⟨hHeld, (by (with_reducible repeat (first | apply Kd.R_alloc | apply Kd.R_drewN | apply Kd.R_drew)); exact Kd.R_mono HO292.out (fun _ hk => hk.1.1.1)), (by (with_reducible repeat (first | apply Kd.N_alloc | apply Kd.N_drewN | apply Kd.N_drew)); exact Kd.N_mono HO304.out (fun _ hk => ⟨hk.1, ⟨hk.2.1, ⟨hk.2.2.2.2, ⟨hk.2.2.1, hk.2.2.2.1⟩⟩⟩⟩)), (K_ BK251.out), (K_ BK289.out), (i81a2_ HI0.out NB0_251.out NB0_289.out), (G2_ HK.out GW251.out GW289.out), (B3_ HB.out (IsS81.ge HI0.out) GE251.out GE289.out)⟩)
       ·skip
        refine goes_ Try.func73 (by kernel_rfl) rfl #[.pointer (some ⟨g, 0, none⟩), .int .i64 (wrap64 (a1 - 1))] (by rfl) rfl rfl ma_ ?_
        with_reducible refine (ih kj2 (by have := HJ2.out; omega) g s0_0 t287 t288 (wrap64 (a1 - 1)) t293 t294 t297 t300 t301 w0 _ ?side1 ?side2 A31.out).mono ?_
        (case side1 => repeat (first | (with_reducible first | exact HI0.out | apply IsS81.alloc | apply IsS81.drewN | apply IsS81.drew | apply IsS81.set_1 | apply IsS81.set_2 | refine IsS81.far ?_ NB0_251.out _ | refine IsS81.far ?_ NB0_289.out _) | exact HI0.out))
        (case side2 => repeat (first | (with_reducible first | exact HB.out | apply below_alloc | apply pw_below_drewN | apply below_drew1 | refine below_set ?_ (IsS81.ge HI0.out) | refine below_set ?_ GE251.out | refine below_set ?_ GE289.out) | exact HB.out))
        rintro e w43 ⟨v295, v298, rfl, ho0, ho1, hi, hb, hk⟩
        refine ⟨_, rfl, ?_⟩
        have HO296 := Aside0.mk (Kd.R_lower (Kd.R_new' (Kd.R_newM (M := fun k_ => (w.heap.size ≤ k_)) (Kd.R_mono (ok' := fun k_ => True) ho0 (fun _ hk_ => trivial)) (keep_size (w := w) (g := g) (row := none) (G2_ HK.out GW251.out GW289.out)) (fun k_ h_ => h_)) (Kd.R_lt (R_ HO283.out))) (keep_size (w := w) (g := g) (row := none) (G2_ HK.out GW251.out GW289.out)))
        have HO299 := Aside0.mk (Kd.N_lower (Kd.N_mono (ok' := fun k_ => (w.heap.size ≤ k_) ∧ some k_ ≠ (v295 : Value).ownBlock ∧ some k_ ≠ (.slice Ao39 t281.length co39 : Value).ownBlock ∧ some k_ ≠ (.slice Ao40 t284.length co40 : Value).ownBlock ∧ k_ ≠ gb251 ∧ k_ ≠ gb289 ∧ k_ ≠ g) ho1 (fun k_ hk_ => ⟨(Nat.le_trans (keep_size (w := w) (g := g) (row := none) (G2_ HK.out GW251.out GW289.out)) hk_.1), hk_.2, (Kd.fresh' (Kd.R_lt (R_ HO283.out)) k_ hk_.1), (Kd.fresh' (Kd.N_lt (N_ HO286.out)) k_ hk_.1), (Kd.freshB (K_ BK251.out) k_ hk_.1), (Kd.freshB (K_ BK289.out) k_ hk_.1), (IsS81.fresh (i81a2_ HI0.out NB0_251.out NB0_289.out) k_ hk_.1)⟩)) (keep_size (w := w) (g := g) (row := none) (G2_ HK.out GW251.out GW289.out)))
        replace BK251 := Aside0.mk (KeepBut.blk hk (g' := gb251) (o := .cells #[.int .i64 0, .slice none 0 0, .slice none 0 0] 30 (0, 0)) (K_ BK251.out) NB251_0.out (by simp))
        replace HO283 := Aside0.mk (Kd.R_mono (Kd.R_told (Kd.R_oldK (IsS81.apart (show IsS81 w0 _ g s0_0 t287 t288 from i81a2_ HI0.out NB0_251.out NB0_289.out) (R_ HO283.out) (by decide)) hk) (Kd.R_base ho0)) (fun _ h_ => h_.1))
        replace HO286 := Aside0.mk (Kd.N_mono (Kd.N_told (Kd.N_told (Kd.N_oldK (Kd.N_mono (ok := fun k_ => (((w.heap.size ≤ k_)) ∧ (some k_ ≠ (.slice Ao39 t281.length co39 : Value).ownBlock ∧ (k_ ≠ gb251 ∧ (k_ ≠ g ∧ k_ ≠ gb289))))) (N_ HO286.out) (fun k_ hk_ => (⟨hk_, hk_.2.2.2.1⟩ : _ ∧ k_ ≠ g))) hk) (Kd.R_base ho0)) (Kd.N_base ho1)) (fun _ h_ => h_.1))
        replace BK289 := Aside0.mk (KeepBut.blk hk (g' := gb289) (o := .cells #[.int .i64 t280, .slice Ao39 t281.length co39, .slice Ao40 t284.length co40] 30 (0, 0)) (K_ BK289.out) NB289_0.out (by simp))
        replace HK := Aside0.mk (KeepBut.trans (G2_ HK.out GW251.out GW289.out) hk (.inl rfl))
        replace HB := Aside0.mk (hb)
        replace HI0 := Aside0.mk (hi)
        (try clear hb)
        (try clear hb2)
        (try clear hk)
        (try clear hi)
        (try clear ho0)
        (try clear ho1)
        refine hK.out _ _ ⟨(blk_cell BK289.out 0).trans rfl, (blk_cell BK289.out 1).trans rfl, (blk_cell BK289.out 2).trans rfl⟩ (fun hHeld => ?_)
        clear hK K
        refine nm_ (some 38) ?_
        refine two_ (i := 0) (j := 6) (Ni := some 33) (Nj := some 39) #[true, true, true, true, true, true, false, false, false] #[false, true, true, true, true, true, true, false, false] rfl rfl rfl rfl (two_of HT_.out (by kernel_rfl)) (by decide) (by decide) (fun K hK => ?_) (fun K hK => ?_)
        ·skip
         refine Kd.R_lit_step Kd.string _ 9 ?hg (N := 33) ?hd (xs := ([(⟨#[112]⟩ : ByteArray), (⟨#[113]⟩ : ByteArray)] : List ByteArray)) (inner := [.string (⟨#[112]⟩ : ByteArray), .string (⟨#[113]⟩ : ByteArray)]) (ok := fun _ => True) (okp := fun _ => True) ?hr ?hp (fun _ hk => hk) trivial (Below.refl _ _) (Nat.le_refl _) (by simp) ?_; (case hd => rfl); (case hg => rfl); (case hr => first | (go_simp; done) | (go_simp; rfl)); (case hp => exact (Reps.one (show Kd.M Kd.string _ _ _ (⟨#[112]⟩ : ByteArray) [.string (⟨#[112]⟩ : ByteArray)] from rfl) (Reps.one (show Kd.M Kd.string _ _ _ (⟨#[113]⟩ : ByteArray) [.string (⟨#[113]⟩ : ByteArray)] from rfl) (Reps.none _ _))))
         intro v291 w44 ho45 hb hg_ hnew_
         clear hg_ hnew_
         (first | rw [← Ny290.out] at ho45 | (simp only [Int.reduceToNat] at ho45; rw [← Ny290.out] at ho45))
         replace HO286 := Aside0.mk (Kd.N_elder' (N_ HO286.out) (Kd.R_base ho45) hb)
         replace HO299 := Aside0.mk (Kd.N_elder' (N_ HO299.out) (Kd.R_base ho45) hb)
         have HO292 := Aside0.mk (Kd.R_lower (Kd.R_new' (Kd.R_new' (Kd.R_newM (M := fun k_ => (w.heap.size ≤ k_)) ho45 (keep_size (w := w) (g := g) (row := none) (G2_ HK.out GW251.out GW289.out)) (fun k_ h_ => h_)) (Kd.R_lt (R_ HO283.out))) (Kd.R_lt (R_ HO296.out))) (keep_size (w := w) (g := g) (row := none) (G2_ HK.out GW251.out GW289.out)))
         replace HO283 := Aside0.mk (Kd.R_elder' (R_ HO283.out) (Kd.R_base ho45) hb)
         replace HO296 := Aside0.mk (Kd.R_elder' (R_ HO296.out) (Kd.R_base ho45) hb)
         replace BK251 := kb_ BK251 hb
         replace BK289 := kb_ BK289 hb
         replace HK := Aside0.mk (KeepBut.trans (G2_ HK.out GW251.out GW289.out) (KeepBut.of_below hb g none) (.inl rfl))
         replace HB := Aside0.mk (below_step (B3_ HB.out (IsS81.ge HI0.out) GE251.out GE289.out) hb)
         replace HI0 := Aside0.mk (IsS81.below (i81a2_ HI0.out NB0_251.out NB0_289.out) hb)
         clear hb ho45
         obtain ⟨Ao46, co46, eo46⟩ := Kd.R_slice HO296.out
         (first | subst eo46 | (injection eo46 with f1_ f2_ f3_; have f4_ := f1_.symm; have f5_ := f3_.symm; clear f1_ f2_ f3_; subst f4_; subst f5_))
         obtain ⟨Ao47, co47, eo47⟩ := Kd.N_slice HO299.out
         (first | subst eo47 | (injection eo47 with f1_ f2_ f3_; have f4_ := f1_.symm; have f5_ := f3_.symm; clear f1_ f2_ f3_; subst f4_; subst f5_))
         refine hK.out _ _ ⟨(blk_cell BK289.out 0).trans rfl, (blk_cell BK289.out 1).trans rfl, (blk_cell BK289.out 2).trans rfl⟩ (fun hHeld => ?_)
         clear hK K
         refine nm_ (some 33) ?_
         refine on_ HT_ (i := 6) (N := some 39) (mk_ 9 127) rfl rfl (fun K hK => ?_)
         refine Kd.N_lit_step k30 _ 30 ?hg (N' := 39) ?hd (xs := ([(⟨t280, t281, t284⟩ : S30), (⟨t293, t294, t297⟩ : S30)] : List (S30))) (inner := [.int .i64 t280, .slice Ao39 t281.length co39, .slice Ao40 t284.length co40, .int .i64 t293, .slice Ao46 t294.length co46, .slice Ao47 t297.length co47]) (ok := (fun k_ => (w.heap.size ≤ k_) ∧ some k_ ≠ (v291 : Value).ownBlock ∧ k_ ≠ gb251 ∧ k_ ≠ gb289 ∧ k_ ≠ g)) (okp := (fun k_ => (w.heap.size ≤ k_) ∧ some k_ ≠ (v291 : Value).ownBlock ∧ k_ ≠ gb251 ∧ k_ ≠ gb289 ∧ k_ ≠ g)) ?hr ?hp (fun _ hk => hk) ((show ∀ k_, w44.heap.size ≤ k_ → (fun k_ => (w.heap.size ≤ k_) ∧ some k_ ≠ (v291 : Value).ownBlock ∧ k_ ≠ gb251 ∧ k_ ≠ gb289 ∧ k_ ≠ g) k_ from fun k_ hk => ⟨(Nat.le_trans (keep_size (w := w) (g := g) (row := none) (G2_ HK.out GW251.out GW289.out)) hk), Kd.fresh' (Kd.R_lt (R_ HO292.out)) k_ hk, Kd.freshB (K_ BK251.out) k_ hk, Kd.freshB (K_ BK289.out) k_ hk, IsS81.fresh (i81a2_ HI0.out NB0_251.out NB0_289.out) k_ hk⟩) _ (Nat.le_refl _)) (Below.refl _ _) (Nat.le_refl _) (by simp) ?_; (case hd => rfl); (case hg => rfl); (case hr => first | (go_simp; done) | (go_simp; rfl)); (case hp => exact (Reps.c3 (show Kd.FK k30 _ _ (⟨t280, t281, t284⟩ : S30) [.int .i64 t280, .slice Ao39 t281.length co39, .slice Ao40 t284.length co40] from (k30_mkF _ _ (⟨t280, t281, t284⟩ : S30) (Kd.R_reads' (Kd.R_mono (ok' := (fun k_ => (w.heap.size ≤ k_) ∧ some k_ ≠ (v291 : Value).ownBlock ∧ k_ ≠ gb251 ∧ k_ ≠ gb289 ∧ k_ ≠ g)) (IsS81.apart HI0.out (Kd.R_types (Kd.R_types (HO283.out) BK251.out (by decide)) BK289.out (by decide)) (by decide)) (fun k_ hk => ⟨hk.1.1.1.1.1, ⟨hk.1.1.1.2, ⟨hk.1.1.2, ⟨hk.1.2, hk.2⟩⟩⟩⟩))).2.1 (Kd.R_F (Kd.R_mono (ok' := (fun k_ => (w.heap.size ≤ k_) ∧ some k_ ≠ (v291 : Value).ownBlock ∧ k_ ≠ gb251 ∧ k_ ≠ gb289 ∧ k_ ≠ g)) (IsS81.apart HI0.out (Kd.R_types (Kd.R_types (HO283.out) BK251.out (by decide)) BK289.out (by decide)) (by decide)) (fun k_ hk => ⟨hk.1.1.1.1.1, ⟨hk.1.1.1.2, ⟨hk.1.1.2, ⟨hk.1.2, hk.2⟩⟩⟩⟩))) (Kd.N_reads' (Kd.N_mono (ok' := (fun k_ => (w.heap.size ≤ k_) ∧ some k_ ≠ (v291 : Value).ownBlock ∧ k_ ≠ gb251 ∧ k_ ≠ gb289 ∧ k_ ≠ g)) (HO286.out) (fun k_ hk => ⟨hk.1.1.1.1, ⟨hk.2, ⟨hk.1.1.1.2.2.1, ⟨hk.1.1.1.2.2.2.2, hk.1.1.1.2.2.2.1⟩⟩⟩⟩))).2.1 (Kd.N_F (Kd.N_mono (ok' := (fun k_ => (w.heap.size ≤ k_) ∧ some k_ ≠ (v291 : Value).ownBlock ∧ k_ ≠ gb251 ∧ k_ ≠ gb289 ∧ k_ ≠ g)) (HO286.out) (fun k_ hk => ⟨hk.1.1.1.1, ⟨hk.2, ⟨hk.1.1.1.2.2.1, ⟨hk.1.1.1.2.2.2.2, hk.1.1.1.2.2.2.1⟩⟩⟩⟩))))) (Reps.c3 (show Kd.FK k30 _ _ (⟨t293, t294, t297⟩ : S30) [.int .i64 t293, .slice Ao46 t294.length co46, .slice Ao47 t297.length co47] from (k30_mkF _ _ (⟨t293, t294, t297⟩ : S30) (Kd.R_reads' (Kd.R_mono (ok' := (fun k_ => (w.heap.size ≤ k_) ∧ some k_ ≠ (v291 : Value).ownBlock ∧ k_ ≠ gb251 ∧ k_ ≠ gb289 ∧ k_ ≠ g)) (IsS81.apart HI0.out (Kd.R_types (Kd.R_types (HO296.out) BK251.out (by decide)) BK289.out (by decide)) (by decide)) (fun k_ hk => ⟨hk.1.1.1.1.1.1, ⟨hk.1.1.1.2, ⟨hk.1.1.2, ⟨hk.1.2, hk.2⟩⟩⟩⟩))).2.1 (Kd.R_F (Kd.R_mono (ok' := (fun k_ => (w.heap.size ≤ k_) ∧ some k_ ≠ (v291 : Value).ownBlock ∧ k_ ≠ gb251 ∧ k_ ≠ gb289 ∧ k_ ≠ g)) (IsS81.apart HI0.out (Kd.R_types (Kd.R_types (HO296.out) BK251.out (by decide)) BK289.out (by decide)) (by decide)) (fun k_ hk => ⟨hk.1.1.1.1.1.1, ⟨hk.1.1.1.2, ⟨hk.1.1.2, ⟨hk.1.2, hk.2⟩⟩⟩⟩))) (Kd.N_reads' (Kd.N_mono (ok' := (fun k_ => (w.heap.size ≤ k_) ∧ some k_ ≠ (v291 : Value).ownBlock ∧ k_ ≠ gb251 ∧ k_ ≠ gb289 ∧ k_ ≠ g)) (HO299.out) (fun k_ hk => ⟨hk.1.1, ⟨hk.2, ⟨hk.1.2.2.2.2.1, ⟨hk.1.2.2.2.2.2.1, hk.1.2.2.2.2.2.2⟩⟩⟩⟩))).2.1 (Kd.N_F (Kd.N_mono (ok' := (fun k_ => (w.heap.size ≤ k_) ∧ some k_ ≠ (v291 : Value).ownBlock ∧ k_ ≠ gb251 ∧ k_ ≠ gb289 ∧ k_ ≠ g)) (HO299.out) (fun k_ hk => ⟨hk.1.1, ⟨hk.2, ⟨hk.1.2.2.2.2.1, ⟨hk.1.2.2.2.2.2.1, hk.1.2.2.2.2.2.2⟩⟩⟩⟩))))) (Reps.none _ _))))
         intro v303 w48 ho49 hb hg_ hnew_
         clear hg_ hnew_
         (first | rw [← Ny302.out] at ho49 | (simp only [Int.reduceToNat] at ho49; rw [← Ny302.out] at ho49))
         replace HO292 := rb_ HO292 hb
         have HO304 := Aside0.mk (Kd.N_lower ho49 (keep_size (w := w) (g := g) (row := none) (G2_ HK.out GW251.out GW289.out)))
         replace BK251 := kb_ BK251 hb
         replace BK289 := kb_ BK289 hb
         replace HK := Aside0.mk (KeepBut.trans (G2_ HK.out GW251.out GW289.out) (KeepBut.of_below hb g none) (.inl rfl))
         replace HB := Aside0.mk (below_step (B3_ HB.out (IsS81.ge HI0.out) GE251.out GE289.out) hb)
         replace HI0 := Aside0.mk (IsS81.below (i81a2_ HI0.out NB0_251.out NB0_289.out) hb)
         clear HO283 HO286 HO296 HO299
         clear hb ho49
         refine hK.out _ _ ⟨(blk_cell BK289.out 0).trans rfl, (blk_cell BK289.out 1).trans rfl, (blk_cell BK289.out 2).trans rfl⟩ (fun hHeld => ?_)
         clear hK K
         refine nm_ (some 39) ?_
         exact norm_ (by simp only [putAll, Act.put, List.setIfInBounds_toArray, List.set_cons_zero, List.set_cons_succ]) (hCont (v291, .slice Ao46 t294.length co46, .slice Ao47 t297.length co47, v303) _ ⟨hHeld, (by (with_reducible repeat (first | apply Kd.R_alloc | apply Kd.R_drewN | apply Kd.R_drew)); exact Kd.R_mono HO292.out (fun _ hk => hk.1.1.1)), (by (with_reducible repeat (first | apply Kd.N_alloc | apply Kd.N_drewN | apply Kd.N_drew)); exact Kd.N_mono HO304.out (fun _ hk => ⟨hk.1, ⟨hk.2.1, ⟨hk.2.2.2.2, ⟨hk.2.2.1, hk.2.2.2.1⟩⟩⟩⟩)), (K_ BK251.out), (K_ BK289.out), (i81a2_ HI0.out NB0_251.out NB0_289.out), (G2_ HK.out GW251.out GW289.out), (B3_ HB.out (IsS81.ge HI0.out) GE251.out GE289.out)⟩)
        ·skip
         obtain ⟨Ao44, co44, eo44⟩ := Kd.R_slice HO296.out
         (first | subst eo44 | (injection eo44 with f1_ f2_ f3_; have f4_ := f1_.symm; have f5_ := f3_.symm; clear f1_ f2_ f3_; subst f4_; subst f5_))
         obtain ⟨Ao45, co45, eo45⟩ := Kd.N_slice HO299.out
         (first | subst eo45 | (injection eo45 with f1_ f2_ f3_; have f4_ := f1_.symm; have f5_ := f3_.symm; clear f1_ f2_ f3_; subst f4_; subst f5_))
         refine Kd.N_lit_step k30 _ 30 ?hg (N' := 39) ?hd (xs := ([(⟨t280, t281, t284⟩ : S30), (⟨t293, t294, t297⟩ : S30)] : List (S30))) (inner := [.int .i64 t280, .slice Ao39 t281.length co39, .slice Ao40 t284.length co40, .int .i64 t293, .slice Ao44 t294.length co44, .slice Ao45 t297.length co45]) (ok := (fun k_ => (w.heap.size ≤ k_) ∧ k_ ≠ gb251 ∧ k_ ≠ gb289 ∧ k_ ≠ g)) (okp := (fun k_ => (w.heap.size ≤ k_) ∧ k_ ≠ gb251 ∧ k_ ≠ gb289 ∧ k_ ≠ g)) ?hr ?hp (fun _ hk => hk) ((show ∀ k_, w43.heap.size ≤ k_ → (fun k_ => (w.heap.size ≤ k_) ∧ k_ ≠ gb251 ∧ k_ ≠ gb289 ∧ k_ ≠ g) k_ from fun k_ hk => ⟨(Nat.le_trans (keep_size (w := w) (g := g) (row := none) (G2_ HK.out GW251.out GW289.out)) hk), Kd.freshB (K_ BK251.out) k_ hk, Kd.freshB (K_ BK289.out) k_ hk, IsS81.fresh (i81a2_ HI0.out NB0_251.out NB0_289.out) k_ hk⟩) _ (Nat.le_refl _)) (Below.refl _ _) (Nat.le_refl _) (by simp) ?_; (case hd => rfl); (case hg => rfl); (case hr => first | (go_simp; done) | (go_simp; rfl)); (case hp => exact (Reps.c3 (show Kd.FK k30 _ _ (⟨t280, t281, t284⟩ : S30) [.int .i64 t280, .slice Ao39 t281.length co39, .slice Ao40 t284.length co40] from (k30_mkF _ _ (⟨t280, t281, t284⟩ : S30) (Kd.R_reads' (Kd.R_mono (ok' := (fun k_ => (w.heap.size ≤ k_) ∧ k_ ≠ gb251 ∧ k_ ≠ gb289 ∧ k_ ≠ g)) (IsS81.apart HI0.out (Kd.R_types (Kd.R_types (HO283.out) BK251.out (by decide)) BK289.out (by decide)) (by decide)) (fun k_ hk => ⟨hk.1.1.1.1, ⟨hk.1.1.2, ⟨hk.1.2, hk.2⟩⟩⟩))).2.1 (Kd.R_F (Kd.R_mono (ok' := (fun k_ => (w.heap.size ≤ k_) ∧ k_ ≠ gb251 ∧ k_ ≠ gb289 ∧ k_ ≠ g)) (IsS81.apart HI0.out (Kd.R_types (Kd.R_types (HO283.out) BK251.out (by decide)) BK289.out (by decide)) (by decide)) (fun k_ hk => ⟨hk.1.1.1.1, ⟨hk.1.1.2, ⟨hk.1.2, hk.2⟩⟩⟩))) (Kd.N_reads' (Kd.N_mono (ok' := (fun k_ => (w.heap.size ≤ k_) ∧ k_ ≠ gb251 ∧ k_ ≠ gb289 ∧ k_ ≠ g)) (HO286.out) (fun k_ hk => ⟨hk.1.1.1, ⟨hk.1.1.2.2.1, ⟨hk.1.1.2.2.2.2, hk.1.1.2.2.2.1⟩⟩⟩))).2.1 (Kd.N_F (Kd.N_mono (ok' := (fun k_ => (w.heap.size ≤ k_) ∧ k_ ≠ gb251 ∧ k_ ≠ gb289 ∧ k_ ≠ g)) (HO286.out) (fun k_ hk => ⟨hk.1.1.1, ⟨hk.1.1.2.2.1, ⟨hk.1.1.2.2.2.2, hk.1.1.2.2.2.1⟩⟩⟩))))) (Reps.c3 (show Kd.FK k30 _ _ (⟨t293, t294, t297⟩ : S30) [.int .i64 t293, .slice Ao44 t294.length co44, .slice Ao45 t297.length co45] from (k30_mkF _ _ (⟨t293, t294, t297⟩ : S30) (Kd.R_reads' (Kd.R_mono (ok' := (fun k_ => (w.heap.size ≤ k_) ∧ k_ ≠ gb251 ∧ k_ ≠ gb289 ∧ k_ ≠ g)) (IsS81.apart HI0.out (Kd.R_types (Kd.R_types (HO296.out) BK251.out (by decide)) BK289.out (by decide)) (by decide)) (fun k_ hk => ⟨hk.1.1.1.1.1, ⟨hk.1.1.2, ⟨hk.1.2, hk.2⟩⟩⟩))).2.1 (Kd.R_F (Kd.R_mono (ok' := (fun k_ => (w.heap.size ≤ k_) ∧ k_ ≠ gb251 ∧ k_ ≠ gb289 ∧ k_ ≠ g)) (IsS81.apart HI0.out (Kd.R_types (Kd.R_types (HO296.out) BK251.out (by decide)) BK289.out (by decide)) (by decide)) (fun k_ hk => ⟨hk.1.1.1.1.1, ⟨hk.1.1.2, ⟨hk.1.2, hk.2⟩⟩⟩))) (Kd.N_reads' (Kd.N_mono (ok' := (fun k_ => (w.heap.size ≤ k_) ∧ k_ ≠ gb251 ∧ k_ ≠ gb289 ∧ k_ ≠ g)) (HO299.out) (fun k_ hk => ⟨hk.1, ⟨hk.2.2.2.2.1, ⟨hk.2.2.2.2.2.1, hk.2.2.2.2.2.2⟩⟩⟩))).2.1 (Kd.N_F (Kd.N_mono (ok' := (fun k_ => (w.heap.size ≤ k_) ∧ k_ ≠ gb251 ∧ k_ ≠ gb289 ∧ k_ ≠ g)) (HO299.out) (fun k_ hk => ⟨hk.1, ⟨hk.2.2.2.2.1, ⟨hk.2.2.2.2.2.1, hk.2.2.2.2.2.2⟩⟩⟩))))) (Reps.none _ _))))
         intro v303 w46 ho47 hb hg_ hnew_
         clear hg_ hnew_
         (first | rw [← Ny302.out] at ho47 | (simp only [Int.reduceToNat] at ho47; rw [← Ny302.out] at ho47))
         have HO304 := Aside0.mk (Kd.N_lower ho47 (keep_size (w := w) (g := g) (row := none) (G2_ HK.out GW251.out GW289.out)))
         replace BK251 := kb_ BK251 hb
         replace BK289 := kb_ BK289 hb
         replace HK := Aside0.mk (KeepBut.trans (G2_ HK.out GW251.out GW289.out) (KeepBut.of_below hb g none) (.inl rfl))
         replace HB := Aside0.mk (below_step (B3_ HB.out (IsS81.ge HI0.out) GE251.out GE289.out) hb)
         replace HI0 := Aside0.mk (IsS81.below (i81a2_ HI0.out NB0_251.out NB0_289.out) hb)
         clear HO283 HO286 HO296 HO299
         clear hb ho47
         refine hK.out _ _ ⟨(blk_cell BK289.out 0).trans rfl, (blk_cell BK289.out 1).trans rfl, (blk_cell BK289.out 2).trans rfl⟩ (fun hHeld => ?_)
         clear hK K
         refine nm_ (some 39) ?_
         refine on_ HT_ (i := 0) (N := some 33) (mk_ 9 127) rfl rfl (fun K hK => ?_)
         refine Kd.R_lit_step Kd.string _ 9 ?hg (N := 33) ?hd (xs := ([(⟨#[112]⟩ : ByteArray), (⟨#[113]⟩ : ByteArray)] : List ByteArray)) (inner := [.string (⟨#[112]⟩ : ByteArray), .string (⟨#[113]⟩ : ByteArray)]) (ok := fun _ => True) (okp := fun _ => True) ?hr ?hp (fun _ hk => hk) trivial (Below.refl _ _) (Nat.le_refl _) (by simp) ?_; (case hd => rfl); (case hg => rfl); (case hr => first | (go_simp; done) | (go_simp; rfl)); (case hp => exact (Reps.one (show Kd.M Kd.string _ _ _ (⟨#[112]⟩ : ByteArray) [.string (⟨#[112]⟩ : ByteArray)] from rfl) (Reps.one (show Kd.M Kd.string _ _ _ (⟨#[113]⟩ : ByteArray) [.string (⟨#[113]⟩ : ByteArray)] from rfl) (Reps.none _ _))))
         intro v291 w48 ho49 hb hg_ hnew_
         clear hg_ hnew_
         (first | rw [← Ny290.out] at ho49 | (simp only [Int.reduceToNat] at ho49; rw [← Ny290.out] at ho49))
         replace HO304 := Aside0.mk (Kd.N_elder' (N_ HO304.out) (Kd.R_base ho49) hb)
         have HO292 := Aside0.mk (Kd.R_lower (Kd.R_newM (M := fun k_ => (w.heap.size ≤ k_)) ho49 (keep_size (w := w) (g := g) (row := none) (G2_ HK.out GW251.out GW289.out)) (fun k_ h_ => h_)) (keep_size (w := w) (g := g) (row := none) (G2_ HK.out GW251.out GW289.out)))
         replace BK251 := kb_ BK251 hb
         replace BK289 := kb_ BK289 hb
         replace HK := Aside0.mk (KeepBut.trans (G2_ HK.out GW251.out GW289.out) (KeepBut.of_below hb g none) (.inl rfl))
         replace HB := Aside0.mk (below_step (B3_ HB.out (IsS81.ge HI0.out) GE251.out GE289.out) hb)
         replace HI0 := Aside0.mk (IsS81.below (i81a2_ HI0.out NB0_251.out NB0_289.out) hb)
         clear hb ho49
         refine hK.out _ _ ⟨(blk_cell BK289.out 0).trans rfl, (blk_cell BK289.out 1).trans rfl, (blk_cell BK289.out 2).trans rfl⟩ (fun hHeld => ?_)
         clear hK K
         refine nm_ (some 33) ?_
         exact norm_ (by simp only [putAll, Act.put, List.setIfInBounds_toArray, List.set_cons_zero, List.set_cons_succ]) (hCont (v291, .slice Ao44 t294.length co44, .slice Ao45 t297.length co45, v303) _ ⟨hHeld, (by (with_reducible repeat (first | apply Kd.R_alloc | apply Kd.R_drewN | apply Kd.R_drew)); exact Kd.R_mono HO292.out (fun _ hk => hk.1)), (by (with_reducible repeat (first | apply Kd.N_alloc | apply Kd.N_drewN | apply Kd.N_drew)); exact Kd.N_mono HO304.out (fun _ hk => ⟨hk.1.1, ⟨hk.2, ⟨hk.1.2.2.2, ⟨hk.1.2.1, hk.1.2.2.1⟩⟩⟩⟩)), (K_ BK251.out), (K_ BK289.out), (i81a2_ HI0.out NB0_251.out NB0_289.out), (G2_ HK.out GW251.out GW289.out), (B3_ HB.out (IsS81.ge HI0.out) GE251.out GE289.out)⟩)
      rintro ⟨v291, v295, v298, v303⟩ w50 ⟨hS_, h0_, h1_, h2_, h3_, h4_, h5_, h6_⟩
      have n0_ : Aside0 (Kd.R Kd.string 9 w50 w.heap.size (fun k_ => (w.heap.size ≤ k_)) v291 y290) := ⟨h0_⟩
      have n1_ : Aside0 (Kd.N k30 30 w50 w.heap.size (fun k_ => (w.heap.size ≤ k_) ∧ some k_ ≠ (v291 : Value).ownBlock ∧ k_ ≠ g ∧ k_ ≠ gb251 ∧ k_ ≠ gb289) v303 y302) := ⟨h1_⟩
      have n2_ : Aside0 (w50.heap[gb251]? = some (.cells #[.int .i64 0, .slice none 0 0, .slice none 0 0] 30 (0, 0))) := ⟨h2_⟩
      have n3_ : Aside0 (w50.heap[gb289]? = some (.cells #[.int .i64 t280, .slice Ao39 t281.length co39, .slice Ao40 t284.length co40] 30 (0, 0))) := ⟨h3_⟩
      have n4_ : Aside0 (IsS81 w0 w50 g s0_0 t300 t301) := ⟨h4_⟩
      have n5_ : Aside0 (KeepBut w w50 g none) := ⟨h5_⟩
      have n6_ : Aside0 (Below w0.heap.size w0 w50) := ⟨h6_⟩
      clear HO283
      clear HO286
      clear BK251
      clear BK289
      clear HI0
      clear HK
      clear HB
      clear h0_ h1_ h2_ h3_ h4_ h5_ h6_
      have HO292 := n0_
      have HO304 := n1_
      have BK251 := n2_
      have BK289 := n3_
      have HI0 := n4_
      have HK := n5_
      have HB := n6_
      clear n0_ n1_ n2_ n3_ n4_ n5_ n6_
      have hHeld : w50.cell? ⟨gb289, 0, none⟩ = some (.int .i64 t280) ∧ w50.cell? ⟨gb289, 1, none⟩ = some (.slice Ao39 t281.length co39) ∧ w50.cell? ⟨gb289, 2, none⟩ = some (.slice Ao40 t284.length co40) := hS_
      obtain ⟨Ao51, co51, eo51⟩ := Kd.R_slice HO292.out
      (first | subst eo51 | (injection eo51 with f1_ f2_ f3_; have f4_ := f1_.symm; have f5_ := f3_.symm; clear f1_ f2_ f3_; subst f4_; subst f5_))
      obtain ⟨Ao52, co52, eo52⟩ := Kd.N_slice HO304.out
      (first | subst eo52 | (injection eo52 with f1_ f2_ f3_; have f4_ := f1_.symm; have f5_ := f3_.symm; clear f1_ f2_ f3_; subst f4_; subst f5_))
      refine norm_ (a' := ?_) ?_ ?_
      rotate_left
      ·simp only [putAll, Act.put, List.setIfInBounds_toArray, List.set_cons_zero, List.set_cons_succ]
       rfl
      refine on_ HT_ (i := 7) (N := some 40) (mk_ 9 255) rfl rfl (fun K hK => ?_)
      refine goes_ Try.func91 (by kernel_rfl) rfl #[.int .i64 4, .slice Ao51 y290.length co51, .slice Ao52 y302.length co52] (by rfl) rfl rfl ma_ ?_
      with_reducible refine (spec_l3Labeled.calls kj2 4 _ _ y290 _ _ y302 t305 t306 t309 _ ?side1 ?side2 ?side3 ?side4 A32.out).mono ?_
      (case side1 => exact crb_ HO292)
      (case side2 => exact lrb_ HO292)
      (case side3 => exact cnb_ HO304)
      (case side4 => exact lnb_ HO304)
      rintro e w53 ⟨v307, v310, rfl, ho0, ho1, hb⟩
      refine ⟨_, rfl, ?_⟩
      have HO308 := Aside0.mk (Kd.R_lower (Kd.R_new' (Kd.R_newM (M := fun k_ => (w.heap.size ≤ k_)) ho0 (keep_size (w := w) (g := g) (row := none) (G2_ HK.out GW251.out GW289.out)) (fun k_ h_ => h_)) (Kd.R_lt (R_ HO292.out))) (keep_size (w := w) (g := g) (row := none) (G2_ HK.out GW251.out GW289.out)))
      have HO311 := Aside0.mk (Kd.N_lower (Kd.N_mono (ok' := fun k_ => (w.heap.size ≤ k_) ∧ some k_ ≠ (v307 : Value).ownBlock ∧ some k_ ≠ (.slice Ao51 y290.length co51 : Value).ownBlock ∧ some k_ ≠ (.slice Ao52 y302.length co52 : Value).ownBlock ∧ k_ ≠ gb251 ∧ k_ ≠ gb289 ∧ k_ ≠ g) (Kd.R_N (Kd.R_bound ho1)) (fun k_ hk_ => ⟨(Nat.le_trans (keep_size (w := w) (g := g) (row := none) (G2_ HK.out GW251.out GW289.out)) hk_.2.1), hk_.1, (Kd.fresh' (Kd.R_lt (R_ HO292.out)) k_ hk_.2.1), (Kd.fresh' (Kd.N_lt (N_ HO304.out)) k_ hk_.2.1), (Kd.freshB (K_ BK251.out) k_ hk_.2.1), (Kd.freshB (K_ BK289.out) k_ hk_.2.1), (IsS81.fresh (i81a2_ HI0.out NB0_251.out NB0_289.out) k_ hk_.2.1)⟩)) (keep_size (w := w) (g := g) (row := none) (G2_ HK.out GW251.out GW289.out)))
      replace HO292 := Aside0.mk (Kd.R_elder' (R_ HO292.out) (Kd.R_base ho0) hb)
      replace HO304 := Aside0.mk (Kd.N_mono (Kd.N_told (Kd.N_told (Kd.N_old (N_ HO304.out) hb) (Kd.R_base ho0)) (Kd.R_base ho1)) (fun _ h_ => h_.1))
      replace BK251 := kb_ BK251 hb
      replace BK289 := kb_ BK289 hb
      replace HK := Aside0.mk (KeepBut.trans (G2_ HK.out GW251.out GW289.out) (KeepBut.of_below hb g none) (.inl rfl))
      replace HB := Aside0.mk (below_step (B3_ HB.out (IsS81.ge HI0.out) GE251.out GE289.out) hb)
      replace HI0 := Aside0.mk (IsS81.below (i81a2_ HI0.out NB0_251.out NB0_289.out) hb)
      (try clear hb)
      (try clear hb2)
      (try clear hk)
      (try clear hi)
      (try clear ho0)
      (try clear ho1)
      obtain ⟨Ao55, co55, eo55⟩ := Kd.R_slice HO308.out
      (first | subst eo55 | (injection eo55 with f1_ f2_ f3_; have f4_ := f1_.symm; have f5_ := f3_.symm; clear f1_ f2_ f3_; subst f4_; subst f5_))
      obtain ⟨Ao57, co57, eo57⟩ := Kd.N_slice HO311.out
      (first | subst eo57 | (injection eo57 with f1_ f2_ f3_; have f4_ := f1_.symm; have f5_ := f3_.symm; clear f1_ f2_ f3_; subst f4_; subst f5_))
      refine hK.out _ _ ⟨(blk_cell BK289.out 0).trans rfl, (blk_cell BK289.out 1).trans rfl, (blk_cell BK289.out 2).trans rfl⟩ (fun hHeld => ?_)
      clear hK K
      refine nm_ (some 40) ?_
      refine on_ HT_ (i := 8) (N := none) (mk_ 9 511) rfl rfl (fun K hK => ?_)
      have hs54 : w53.cell? ⟨gb251, 0, none⟩ = some (.int .i64 0) := (blk_cell BK251.out 0).trans rfl
      have hfs54 := blk_frozen BK251.out 0
      have hns54_1 := NB289_251.out
      have hms54_1 := NB251_289.out
      have hs56 : w53.cell? ⟨gb251, 1, none⟩ = some (.slice none 0 0) := (blk_cell BK251.out 1).trans rfl
      have hfs56 := blk_frozen BK251.out 1
      have hns56_1 := NB289_251.out
      have hms56_1 := NB251_289.out
      have hs58 : w53.cell? ⟨gb251, 2, none⟩ = some (.slice none 0 0) := (blk_cell BK251.out 2).trans rfl
      have hfs58 := blk_frozen BK251.out 2
      have hns58_1 := NB289_251.out
      have hms58_1 := NB251_289.out
      refine skip_ (w1 := ?_) (by rfl) rfl ?_ ?_
      rotate_left
      ·go_simp
       rfl
      refine hK.out _ _ ⟨((cell_far (p := ⟨gb251, _, none⟩) NB289_251.out _).trans (((cell_far (p := ⟨gb251, _, none⟩) NB289_251.out _).trans (((cell_far (p := ⟨gb251, _, none⟩) NB289_251.out _).trans (hHeld.1)))))), ((cell_far (p := ⟨gb251, _, none⟩) NB289_251.out _).trans (((cell_far (p := ⟨gb251, _, none⟩) NB289_251.out _).trans (((cell_far (p := ⟨gb251, _, none⟩) NB289_251.out _).trans (hHeld.2.1)))))), ((cell_far (p := ⟨gb251, _, none⟩) NB289_251.out _).trans (((cell_far (p := ⟨gb251, _, none⟩) NB289_251.out _).trans (((cell_far (p := ⟨gb251, _, none⟩) NB289_251.out _).trans (hHeld.2.2))))))⟩ (fun hHeld => ?_)
      clear hK K
      refine done_ (done_of HT_.out (by kernel_rfl)) ?_
      try go_wp2
      refine bodyPost_ret (results_cell_row rfl _ _ gb251 30 #[.int .i64 t305, .slice Ao55 t306.length co55, .slice Ao57 t309.length co57] (0, 0) _ rfl (by (with_reducible repeat (first | refine blk_drewN ?_ _ | refine blk_drew ?_ | refine blk_alloc ?_ _)); refine blk_put (cs := #[.int .i64 t305, .slice Ao55 t306.length co55, .slice none 0 0]) ?_ 2 _ rfl; (with_reducible repeat (first | refine blk_drewN ?_ _ | refine blk_drew ?_ | refine blk_alloc ?_ _)); refine blk_put (cs := #[.int .i64 t305, .slice none 0 0, .slice none 0 0]) ?_ 1 _ rfl; (with_reducible repeat (first | refine blk_drewN ?_ _ | refine blk_drew ?_ | refine blk_alloc ?_ _)); refine blk_put (cs := #[.int .i64 0, .slice none 0 0, .slice none 0 0]) ?_ 0 _ rfl; (with_reducible repeat (first | refine blk_drewN ?_ _ | refine blk_drew ?_ | refine blk_alloc ?_ _)); exact BK251.out) Try.underlying30 rfl (by kernel_rfl)) rfl ?_
      exact ⟨_, _, er_, by (with_reducible repeat (first | apply Kd.R_alloc | apply Kd.R_drewN | apply Kd.R_drew)); exact Kd.R_mono (Kd.R_far (p := ⟨gb251, 2, none⟩) (Kd.R_far (p := ⟨gb251, 1, none⟩) (Kd.R_far (p := ⟨gb251, 0, none⟩) (Kd.R_types HO308.out BK251.out (by decide)) (fun _ hk => hk.2) (.int .i64 t305)) (fun _ hk => hk.2) (.slice Ao55 t306.length co55)) (fun _ hk => hk.2) (.slice Ao57 t309.length co57)) (fun _ hk => hk.1.1.1), by (with_reducible repeat (first | apply Kd.N_alloc | apply Kd.N_drewN | apply Kd.N_drew)); exact Kd.N_mono (Kd.N_far (p := ⟨gb251, 2, none⟩) (Kd.N_far (p := ⟨gb251, 1, none⟩) (Kd.N_far (p := ⟨gb251, 0, none⟩) (Kd.N_mono HO311.out (fun k_ hk => (⟨hk, hk.2.2.2.2.1⟩ : _ ∧ k_ ≠ gb251))) (fun _ hk => hk.2) (.int .i64 t305)) (fun _ hk => hk.2) (.slice Ao55 t306.length co55)) (fun _ hk => hk.2) (.slice Ao57 t309.length co57)) (fun _ hk => ⟨hk.1.1, hk.1.2.1⟩), i81a2_ HI0.out NB0_251.out NB0_289.out, B3_ HB.out (IsS81.ge HI0.out) GE251.out GE289.out, G2_ HK.out GW251.out GW289.out⟩
     ·rw [if_neg c29] at H
      have c29b0 : (t261 == 1) = false := beq_eq_false_iff_ne.mpr c29
      have c29b1 : (t261 != 1) = true := bne_iff_ne.mpr c29
      by_cases c59 : t261 = 2
      ·rw [if_pos c59] at H
       have c59b0 : (t261 == 2) = true := beq_iff_eq.mpr c59
       have c59b1 : (t261 != 2) = false := bne_eq_false_iff_eq.mpr c59
       clear c59
       replace H := Option.bind_eq_some_iff.mp H
       obtain ⟨⟨t312, t313, t316, t319, t320⟩, A600, H⟩ := H
       replace H : ((spec_l3Labeled.f kj2 3 (([(⟨#[97]⟩ : ByteArray), (⟨#[98]⟩ : ByteArray)] : List ByteArray)) (([(⟨t312, t313, t316⟩ : S30), (⟨t312, t313, t316⟩ : S30)] : List (S30)))).bind fun bt328 => (some (bt328.1, bt328.2.1, bt328.2.2, t319, t320))) = some (r1, r2, r3, r4, r5) := H
       have A60 := Aside0.mk A600
       clear A600
       obtain ⟨y322, hy322⟩ : ∃ y_ : List ByteArray, y_ = (([(⟨#[97]⟩ : ByteArray), (⟨#[98]⟩ : ByteArray)] : List ByteArray)) := ⟨_, rfl⟩
       replace H : ((spec_l3Labeled.f kj2 3 y322 (([(⟨t312, t313, t316⟩ : S30), (⟨t312, t313, t316⟩ : S30)] : List (S30)))).bind fun bt328 => (some (bt328.1, bt328.2.1, bt328.2.2, t319, t320))) = some (r1, r2, r3, r4, r5) := by first | (rw [hy322]; with_reducible exact H) | (have H2_ := (Option.bind_some _ _).symm.trans H; rw [hy322]; with_reducible exact H2_) | (have H2_ := (Option.bind_some _ _).symm.trans H; with_reducible exact H2_) | with_reducible exact H | (rw [hy322]; exact H) | exact H
       have Ny322 := Aside0.mk hy322
       clear hy322
       obtain ⟨y325, hy325⟩ : ∃ y_ : List (S30), y_ = (([(⟨t312, t313, t316⟩ : S30), (⟨t312, t313, t316⟩ : S30)] : List (S30))) := ⟨_, rfl⟩
       replace H : ((spec_l3Labeled.f kj2 3 y322 y325).bind fun bt328 => (some (bt328.1, bt328.2.1, bt328.2.2, t319, t320))) = some (r1, r2, r3, r4, r5) := by first | (rw [hy325]; with_reducible exact H) | (have H2_ := (Option.bind_some _ _).symm.trans H; rw [hy325]; with_reducible exact H2_) | (have H2_ := (Option.bind_some _ _).symm.trans H; with_reducible exact H2_) | with_reducible exact H | (rw [hy325]; exact H) | exact H
       have Ny325 := Aside0.mk hy325
       clear hy325
       replace H := Option.bind_eq_some_iff.mp H
       obtain ⟨⟨t328, t329, t332⟩, A610, H⟩ := H
       replace H : (some (t328, t329, t332, t319, t320)) = some (r1, r2, r3, r4, r5) := H
       have A61 := Aside0.mk A610
       clear A610
       simp only [Option.some.injEq, Prod.mk.injEq] at H
       obtain ⟨rfl, rfl, rfl, rfl, rfl⟩ := H
       go_wp2_with (first | ((with_reducible refine gate_callee (f := 74) rfl ?_); refine goesL_ (some 19) rfl rfl Try.func74 (by kernel_rfl) rfl #[.pointer (some ⟨g, 0, none⟩), .int .i64 4] rfl ma_ ?_; (with_reducible refine (spec_l1Below.calls g s0_0 x1001_2 x1002_2 4 t261 t262 t263 w0 _ ?side1 ?side2 A16.out).mono ?_); (case side1 => repeat (first | (with_reducible first | exact HI0.out | apply IsS81.alloc | apply IsS81.drewN | apply IsS81.drew | apply IsS81.set_1 | apply IsS81.set_2 | refine IsS81.far ?_ NB0_251.out _) | exact HI0.out)); (case side2 => repeat (first | (with_reducible first | exact HB.out | apply below_alloc | apply pw_below_drewN | apply below_drew1 | refine below_set ?_ (IsS81.ge HI0.out) | refine below_set ?_ GE251.out) | exact HB.out)); rintro e w62 ⟨rfl, hi, hb, hk⟩; refine ⟨_, rfl, ?_⟩; replace BK251 := Aside0.mk (KeepBut.blk hk (g' := gb251) (o := .cells #[.int .i64 0, .slice none 0 0, .slice none 0 0] 30 (0, 0)) (K_ BK251.out) NB251_0.out (by simp)); replace HK := Aside0.mk (KeepBut.trans (G1_ HK.out GW251.out) hk (.inl rfl)); replace HB := Aside0.mk (hb); replace HI0 := Aside0.mk (hi); (try clear hb); (try clear hb2); (try clear hk); (try clear hi)) | ((with_reducible refine gate_callee (f := 73) rfl ?_); refine goesL_ (some 46) rfl rfl Try.func73 (by kernel_rfl) rfl #[.pointer (some ⟨g, 0, none⟩), .int .i64 (wrap64 (a1 - 1))] rfl ma_ ?_; (with_reducible refine (ih kj2 (by have := HJ2.out; omega) g s0_0 t262 t263 (wrap64 (a1 - 1)) t312 t313 t316 t319 t320 w0 _ ?side1 ?side2 A60.out).mono ?_); (case side1 => repeat (first | (with_reducible first | exact HI0.out | apply IsS81.alloc | apply IsS81.drewN | apply IsS81.drew | apply IsS81.set_1 | apply IsS81.set_2 | refine IsS81.far ?_ NB0_251.out _) | exact HI0.out)); (case side2 => repeat (first | (with_reducible first | exact HB.out | apply below_alloc | apply pw_below_drewN | apply below_drew1 | refine below_set ?_ (IsS81.ge HI0.out) | refine below_set ?_ GE251.out) | exact HB.out)); rintro e w63 ⟨v314, v317, rfl, ho0, ho1, hi, hb, hk⟩; refine ⟨_, rfl, ?_⟩; have HO315 := Aside0.mk (Kd.R_lower (Kd.R_newM (M := fun k_ => (w.heap.size ≤ k_)) (Kd.R_mono (ok' := fun k_ => True) ho0 (fun _ hk_ => trivial)) (keep_size (w := w) (g := g) (row := none) (G1_ HK.out GW251.out)) (fun k_ h_ => h_)) (keep_size (w := w) (g := g) (row := none) (G1_ HK.out GW251.out))); have HO318 := Aside0.mk (Kd.N_lower (Kd.N_mono (ok' := fun k_ => (w.heap.size ≤ k_) ∧ some k_ ≠ (v314 : Value).ownBlock ∧ k_ ≠ gb251 ∧ k_ ≠ g) ho1 (fun k_ hk_ => ⟨(Nat.le_trans (keep_size (w := w) (g := g) (row := none) (G1_ HK.out GW251.out)) hk_.1), hk_.2, (Kd.freshB (K_ BK251.out) k_ hk_.1), (IsS81.fresh (i81a1_ HI0.out NB0_251.out) k_ hk_.1)⟩)) (keep_size (w := w) (g := g) (row := none) (G1_ HK.out GW251.out))); replace BK251 := Aside0.mk (KeepBut.blk hk (g' := gb251) (o := .cells #[.int .i64 0, .slice none 0 0, .slice none 0 0] 30 (0, 0)) (K_ BK251.out) NB251_0.out (by simp)); replace HK := Aside0.mk (KeepBut.trans (G1_ HK.out GW251.out) hk (.inl rfl)); replace HB := Aside0.mk (hb); replace HI0 := Aside0.mk (hi); (try clear hb); (try clear hb2); (try clear hk); (try clear hi); (try clear ho0); (try clear ho1)) | ((with_reducible refine gate_dst (N := 6) rfl ?_); refine box_event ?hg (N := 6) ?hd (cs := #[.int .i64 0, .slice none 0 0, .slice none 0 0]) (t := 30) ?hr ?_; (case hd => rfl); (case hg => rfl); (case hr => first | (go_simp; done) | (go_simp; rfl)); intro gb321 hg w64 hbox hb; replace HO315 := rb_ HO315 hb; replace HO318 := Aside0.mk (Kd.N_below (Kd.N_elderB (N_ HO318.out) gb321 (Nat.le_of_eq hg.symm)) hb); replace HB := Aside0.mk (below_step (B2_ HB.out (IsS81.ge HI0.out) GE251.out) hb); have BK321 := Aside0.mk (hbox); have GW321 := Aside0.mk ((by rw [hg]; exact (keep_size (w := w) (g := g) (row := none) (G1_ HK.out GW251.out)) : w.heap.size ≤ gb321)); have GE321 := Aside0.mk ((Nat.le_trans HW0.out (by rw [hg]; exact (keep_size (w := w) (g := g) (row := none) (G1_ HK.out GW251.out)) : w.heap.size ≤ gb321) : w0.heap.size ≤ gb321)); replace HK := Aside0.mk (KeepBut.trans (G1_ HK.out GW251.out) (KeepBut.of_below hb g none) (.inl rfl)); have NB251_321 := Aside0.mk ((by rw [hg]; exact Nat.ne_of_lt (blk_lt (K_ BK251.out)) : gb251 ≠ gb321)); have NB321_251 := Aside0.mk ((by rw [hg]; exact Nat.ne_of_gt (blk_lt (K_ BK251.out)) : gb321 ≠ gb251)); replace BK251 := kb_ BK251 hb; have NB0_321 := Aside0.mk ((by rw [hg]; exact Nat.ne_of_lt (IsS81.lt (show IsS81 w0 _ g s0_0 t319 t320 from i81a1_ HI0.out NB0_251.out)) : g ≠ gb321)); have NB321_0 := Aside0.mk ((by rw [hg]; exact Nat.ne_of_gt (IsS81.lt (show IsS81 w0 _ g s0_0 t319 t320 from i81a1_ HI0.out NB0_251.out)) : gb321 ≠ g)); replace HI0 := Aside0.mk (IsS81.below (i81a1_ HI0.out NB0_251.out) hb); clear hb hbox hg; have hnb65 := NB321_251.out; have hnc65 := NB251_321.out; have hnb66 := NB321_0.out; have hnc66 := NB0_321.out; obtain ⟨hcz67_0, hcz67_1, hcz67_2, hfz67_0, hfz67_1, hfz67_2⟩ := box3_ BK321.out; obtain ⟨Ao68, co68, eo68⟩ := Kd.R_slice HO315.out; subst eo68; obtain ⟨Ao69, co69, eo69⟩ := Kd.N_slice HO318.out; subst eo69) | ((with_reducible refine gate_dst (N := 47) rfl ?_); refine Kd.R_lit Kd.string _ 9 ?hg (N := 47) ?hd (xs := ([(⟨#[97]⟩ : ByteArray), (⟨#[98]⟩ : ByteArray)] : List ByteArray)) (inner := [.string (⟨#[97]⟩ : ByteArray), .string (⟨#[98]⟩ : ByteArray)]) (ok := fun _ => True) (okp := fun _ => True) ?hr ?hp (fun _ hk => hk) trivial (Below.refl _ _) (Nat.le_refl _) (by simp) ?_; (case hd => rfl); (case hg => rfl); (case hr => first | (go_simp; done) | (go_simp; rfl)); (case hp => exact (Reps.one (show Kd.M Kd.string _ _ _ (⟨#[97]⟩ : ByteArray) [.string (⟨#[97]⟩ : ByteArray)] from rfl) (Reps.one (show Kd.M Kd.string _ _ _ (⟨#[98]⟩ : ByteArray) [.string (⟨#[98]⟩ : ByteArray)] from rfl) (Reps.none _ _)))); intro v323 w70 ho71 hb hg_ hnew_; clear hg_ hnew_; (first | rw [← Ny322.out] at ho71 | (simp only [Int.reduceToNat] at ho71; rw [← Ny322.out] at ho71)); replace HO318 := Aside0.mk (Kd.N_elder' (by (with_reducible repeat (first | apply Kd.N_alloc | apply Kd.N_drewN | apply Kd.N_drew)); exact (Kd.N_mono (Kd.N_far (p := ⟨gb321, 2, none⟩) (Kd.N_far (p := ⟨gb321, 1, none⟩) (Kd.N_far (p := ⟨gb321, 0, none⟩) (Kd.N_mono HO318.out (fun k_ hk => (⟨hk, hk.2⟩ : _ ∧ k_ ≠ gb321))) (fun _ hk => hk.2) (.int .i64 t312)) (fun _ hk => hk.2) (.slice Ao68 t313.length co68)) (fun _ hk => hk.2) (.slice Ao69 t316.length co69)) (fun _ h_ => h_.1))) (Kd.R_base ho71) hb); have HO324 := Aside0.mk (Kd.R_lower (Kd.R_new' (Kd.R_newM (M := fun k_ => (w.heap.size ≤ k_)) ho71 (keep_size (w := w) (g := g) (row := none) (G2_ HK.out GW251.out GW321.out)) (fun k_ h_ => h_)) (Kd.R_lt (by (with_reducible repeat (first | apply Kd.R_alloc | apply Kd.R_drewN | apply Kd.R_drew)); exact (Kd.R_mono (Kd.R_far (p := ⟨gb321, 2, none⟩) (Kd.R_far (p := ⟨gb321, 1, none⟩) (Kd.R_far (p := ⟨gb321, 0, none⟩) (Kd.R_types HO315.out BK321.out (by decide)) (fun _ hk => hk.2) (.int .i64 t312)) (fun _ hk => hk.2) (.slice Ao68 t313.length co68)) (fun _ hk => hk.2) (.slice Ao69 t316.length co69)) (fun _ h_ => h_.1))))) (keep_size (w := w) (g := g) (row := none) (G2_ HK.out GW251.out GW321.out))); replace HO315 := Aside0.mk (Kd.R_elder' (by (with_reducible repeat (first | apply Kd.R_alloc | apply Kd.R_drewN | apply Kd.R_drew)); exact (Kd.R_mono (Kd.R_far (p := ⟨gb321, 2, none⟩) (Kd.R_far (p := ⟨gb321, 1, none⟩) (Kd.R_far (p := ⟨gb321, 0, none⟩) (Kd.R_types HO315.out BK321.out (by decide)) (fun _ hk => hk.2) (.int .i64 t312)) (fun _ hk => hk.2) (.slice Ao68 t313.length co68)) (fun _ hk => hk.2) (.slice Ao69 t316.length co69)) (fun _ h_ => h_.1))) (Kd.R_base ho71) hb); replace BK251 := Aside0.mk (blk_below (g := gb251) (o := .cells #[.int .i64 0, .slice none 0 0, .slice none 0 0] 30 (0, 0)) (by (with_reducible repeat (first | refine blk_drewN ?_ _ | refine blk_drew ?_ | refine blk_alloc ?_ _)); refine blk_far ?_ NB251_321.out _; (with_reducible repeat (first | refine blk_drewN ?_ _ | refine blk_drew ?_ | refine blk_alloc ?_ _)); refine blk_far ?_ NB251_321.out _; (with_reducible repeat (first | refine blk_drewN ?_ _ | refine blk_drew ?_ | refine blk_alloc ?_ _)); refine blk_far ?_ NB251_321.out _; (with_reducible repeat (first | refine blk_drewN ?_ _ | refine blk_drew ?_ | refine blk_alloc ?_ _)); exact BK251.out) hb); replace BK321 := Aside0.mk (blk_below (g := gb321) (o := .cells #[.int .i64 t312, .slice Ao68 t313.length co68, .slice Ao69 t316.length co69] 30 (0, 0)) (by (with_reducible repeat (first | refine blk_drewN ?_ _ | refine blk_drew ?_ | refine blk_alloc ?_ _)); refine blk_put (cs := #[.int .i64 t312, .slice Ao68 t313.length co68, .slice none 0 0]) ?_ 2 _ rfl; (with_reducible repeat (first | refine blk_drewN ?_ _ | refine blk_drew ?_ | refine blk_alloc ?_ _)); refine blk_put (cs := #[.int .i64 t312, .slice none 0 0, .slice none 0 0]) ?_ 1 _ rfl; (with_reducible repeat (first | refine blk_drewN ?_ _ | refine blk_drew ?_ | refine blk_alloc ?_ _)); refine blk_put (cs := #[.int .i64 0, .slice none 0 0, .slice none 0 0]) ?_ 0 _ rfl; (with_reducible repeat (first | refine blk_drewN ?_ _ | refine blk_drew ?_ | refine blk_alloc ?_ _)); exact BK321.out) hb); replace HK := Aside0.mk (KeepBut.trans (G2_ HK.out GW251.out GW321.out) (KeepBut.of_below hb g none) (.inl rfl)); replace HB := Aside0.mk (below_step (B3_ HB.out (IsS81.ge HI0.out) GE251.out GE321.out) hb); replace HI0 := Aside0.mk (IsS81.below (show IsS81 w0 (((w64.setCell ⟨gb321, 0, none⟩ (.int .i64 t312)).setCell ⟨gb321, 1, none⟩ (.slice Ao68 t313.length co68)).setCell ⟨gb321, 2, none⟩ (.slice Ao69 t316.length co69)) g s0_0 t319 t320 from i81a2_ HI0.out NB0_251.out NB0_321.out) hb); clear hb ho71; obtain ⟨hcz72_0, hcz72_1, hcz72_2, hfz72_0, hfz72_1, hfz72_2⟩ := box3_ BK321.out) | ((with_reducible refine gate_dst (N := 50) rfl ?_); refine Kd.N_lit k30 _ 30 ?hg (N' := 50) ?hd (xs := ([(⟨t312, t313, t316⟩ : S30), (⟨t312, t313, t316⟩ : S30)] : List (S30))) (inner := [.int .i64 t312, .slice Ao68 t313.length co68, .slice Ao69 t316.length co69, .int .i64 t312, .slice Ao68 t313.length co68, .slice Ao69 t316.length co69]) (ok := (fun k_ => (w.heap.size ≤ k_) ∧ some k_ ≠ (v323 : Value).ownBlock ∧ k_ ≠ gb251 ∧ k_ ≠ gb321 ∧ k_ ≠ g)) (okp := (fun k_ => (w.heap.size ≤ k_) ∧ some k_ ≠ (v323 : Value).ownBlock ∧ k_ ≠ gb251 ∧ k_ ≠ gb321 ∧ k_ ≠ g)) ?hr ?hp (fun _ hk => hk) ((show ∀ k_, w70.heap.size ≤ k_ → (fun k_ => (w.heap.size ≤ k_) ∧ some k_ ≠ (v323 : Value).ownBlock ∧ k_ ≠ gb251 ∧ k_ ≠ gb321 ∧ k_ ≠ g) k_ from fun k_ hk => ⟨(Nat.le_trans (keep_size (w := w) (g := g) (row := none) (G2_ HK.out GW251.out GW321.out)) hk), Kd.fresh' (Kd.R_lt (R_ HO324.out)) k_ hk, Kd.freshB (K_ BK251.out) k_ hk, Kd.freshB (K_ BK321.out) k_ hk, IsS81.fresh (i81a2_ HI0.out NB0_251.out NB0_321.out) k_ hk⟩) _ (Nat.le_refl _)) (Below.refl _ _) (Nat.le_refl _) (by simp) ?_; (case hd => rfl); (case hg => rfl); (case hr => first | (go_simp; done) | (go_simp; rfl)); (case hp => exact (Reps.c3 (show Kd.FK k30 _ _ (⟨t312, t313, t316⟩ : S30) [.int .i64 t312, .slice Ao68 t313.length co68, .slice Ao69 t316.length co69] from (k30_mkF _ _ (⟨t312, t313, t316⟩ : S30) (Kd.R_reads' (Kd.R_mono (ok' := (fun k_ => (w.heap.size ≤ k_) ∧ some k_ ≠ (v323 : Value).ownBlock ∧ k_ ≠ gb251 ∧ k_ ≠ gb321 ∧ k_ ≠ g)) (IsS81.apart HI0.out (Kd.R_types (Kd.R_types (HO315.out) BK251.out (by decide)) BK321.out (by decide)) (by decide)) (fun k_ hk => ⟨hk.1.1.1.1.1, ⟨hk.1.1.1.2, ⟨hk.1.1.2, ⟨hk.1.2, hk.2⟩⟩⟩⟩))).2.1 (Kd.R_F (Kd.R_mono (ok' := (fun k_ => (w.heap.size ≤ k_) ∧ some k_ ≠ (v323 : Value).ownBlock ∧ k_ ≠ gb251 ∧ k_ ≠ gb321 ∧ k_ ≠ g)) (IsS81.apart HI0.out (Kd.R_types (Kd.R_types (HO315.out) BK251.out (by decide)) BK321.out (by decide)) (by decide)) (fun k_ hk => ⟨hk.1.1.1.1.1, ⟨hk.1.1.1.2, ⟨hk.1.1.2, ⟨hk.1.2, hk.2⟩⟩⟩⟩))) (Kd.N_reads' (Kd.N_mono (ok' := (fun k_ => (w.heap.size ≤ k_) ∧ some k_ ≠ (v323 : Value).ownBlock ∧ k_ ≠ gb251 ∧ k_ ≠ gb321 ∧ k_ ≠ g)) (HO318.out) (fun k_ hk => ⟨hk.1.1.1, ⟨hk.2, ⟨hk.1.1.2.2.1, ⟨hk.1.2, hk.1.1.2.2.2⟩⟩⟩⟩))).2.1 (Kd.N_F (Kd.N_mono (ok' := (fun k_ => (w.heap.size ≤ k_) ∧ some k_ ≠ (v323 : Value).ownBlock ∧ k_ ≠ gb251 ∧ k_ ≠ gb321 ∧ k_ ≠ g)) (HO318.out) (fun k_ hk => ⟨hk.1.1.1, ⟨hk.2, ⟨hk.1.1.2.2.1, ⟨hk.1.2, hk.1.1.2.2.2⟩⟩⟩⟩))))) (Reps.c3 (show Kd.FK k30 _ _ (⟨t312, t313, t316⟩ : S30) [.int .i64 t312, .slice Ao68 t313.length co68, .slice Ao69 t316.length co69] from (k30_mkF _ _ (⟨t312, t313, t316⟩ : S30) (Kd.R_reads' (Kd.R_mono (ok' := (fun k_ => (w.heap.size ≤ k_) ∧ some k_ ≠ (v323 : Value).ownBlock ∧ k_ ≠ gb251 ∧ k_ ≠ gb321 ∧ k_ ≠ g)) (IsS81.apart HI0.out (Kd.R_types (Kd.R_types (HO315.out) BK251.out (by decide)) BK321.out (by decide)) (by decide)) (fun k_ hk => ⟨hk.1.1.1.1.1, ⟨hk.1.1.1.2, ⟨hk.1.1.2, ⟨hk.1.2, hk.2⟩⟩⟩⟩))).2.1 (Kd.R_F (Kd.R_mono (ok' := (fun k_ => (w.heap.size ≤ k_) ∧ some k_ ≠ (v323 : Value).ownBlock ∧ k_ ≠ gb251 ∧ k_ ≠ gb321 ∧ k_ ≠ g)) (IsS81.apart HI0.out (Kd.R_types (Kd.R_types (HO315.out) BK251.out (by decide)) BK321.out (by decide)) (by decide)) (fun k_ hk => ⟨hk.1.1.1.1.1, ⟨hk.1.1.1.2, ⟨hk.1.1.2, ⟨hk.1.2, hk.2⟩⟩⟩⟩))) (Kd.N_reads' (Kd.N_mono (ok' := (fun k_ => (w.heap.size ≤ k_) ∧ some k_ ≠ (v323 : Value).ownBlock ∧ k_ ≠ gb251 ∧ k_ ≠ gb321 ∧ k_ ≠ g)) (HO318.out) (fun k_ hk => ⟨hk.1.1.1, ⟨hk.2, ⟨hk.1.1.2.2.1, ⟨hk.1.2, hk.1.1.2.2.2⟩⟩⟩⟩))).2.1 (Kd.N_F (Kd.N_mono (ok' := (fun k_ => (w.heap.size ≤ k_) ∧ some k_ ≠ (v323 : Value).ownBlock ∧ k_ ≠ gb251 ∧ k_ ≠ gb321 ∧ k_ ≠ g)) (HO318.out) (fun k_ hk => ⟨hk.1.1.1, ⟨hk.2, ⟨hk.1.1.2.2.1, ⟨hk.1.2, hk.1.1.2.2.2⟩⟩⟩⟩))))) (Reps.none _ _)))); intro v326 w73 ho74 hb hg_ hnew_; clear hg_ hnew_; (first | rw [← Ny325.out] at ho74 | (simp only [Int.reduceToNat] at ho74; rw [← Ny325.out] at ho74)); replace HO324 := rb_ HO324 hb; have HO327 := Aside0.mk (Kd.N_lower ho74 (keep_size (w := w) (g := g) (row := none) (G2_ HK.out GW251.out GW321.out))); replace BK251 := kb_ BK251 hb; replace BK321 := kb_ BK321 hb; replace HK := Aside0.mk (KeepBut.trans (G2_ HK.out GW251.out GW321.out) (KeepBut.of_below hb g none) (.inl rfl)); replace HB := Aside0.mk (below_step (B3_ HB.out (IsS81.ge HI0.out) GE251.out GE321.out) hb); replace HI0 := Aside0.mk (IsS81.below (i81a2_ HI0.out NB0_251.out NB0_321.out) hb); clear HO315 HO318; clear hb ho74; obtain ⟨Ao75, co75, eo75⟩ := Kd.R_slice HO324.out; subst eo75; obtain ⟨Ao76, co76, eo76⟩ := Kd.N_slice HO327.out; subst eo76) | ((with_reducible refine gate_callee (f := 91) rfl ?_); refine goesL_ (some 51) rfl rfl Try.func91 (by kernel_rfl) rfl #[.int .i64 3, .slice Ao75 y322.length co75, .slice Ao76 y325.length co76] rfl ma_ ?_; (with_reducible refine (spec_l3Labeled.calls kj2 3 _ _ y322 _ _ y325 t328 t329 t332 _ ?side1 ?side2 ?side3 ?side4 A61.out).mono ?_); (case side1 => exact crb_ HO324); (case side2 => exact lrb_ HO324); (case side3 => exact cnb_ HO327); (case side4 => exact lnb_ HO327); rintro e w77 ⟨v330, v333, rfl, ho0, ho1, hb⟩; refine ⟨_, rfl, ?_⟩; have HO331 := Aside0.mk (Kd.R_lower (Kd.R_new' (Kd.R_newM (M := fun k_ => (w.heap.size ≤ k_)) ho0 (keep_size (w := w) (g := g) (row := none) (G2_ HK.out GW251.out GW321.out)) (fun k_ h_ => h_)) (Kd.R_lt (R_ HO324.out))) (keep_size (w := w) (g := g) (row := none) (G2_ HK.out GW251.out GW321.out))); have HO334 := Aside0.mk (Kd.N_lower (Kd.N_mono (ok' := fun k_ => (w.heap.size ≤ k_) ∧ some k_ ≠ (v330 : Value).ownBlock ∧ some k_ ≠ (.slice Ao75 y322.length co75 : Value).ownBlock ∧ some k_ ≠ (.slice Ao76 y325.length co76 : Value).ownBlock ∧ k_ ≠ gb251 ∧ k_ ≠ gb321 ∧ k_ ≠ g) (Kd.R_N (Kd.R_bound ho1)) (fun k_ hk_ => ⟨(Nat.le_trans (keep_size (w := w) (g := g) (row := none) (G2_ HK.out GW251.out GW321.out)) hk_.2.1), hk_.1, (Kd.fresh' (Kd.R_lt (R_ HO324.out)) k_ hk_.2.1), (Kd.fresh' (Kd.N_lt (N_ HO327.out)) k_ hk_.2.1), (Kd.freshB (K_ BK251.out) k_ hk_.2.1), (Kd.freshB (K_ BK321.out) k_ hk_.2.1), (IsS81.fresh (i81a2_ HI0.out NB0_251.out NB0_321.out) k_ hk_.2.1)⟩)) (keep_size (w := w) (g := g) (row := none) (G2_ HK.out GW251.out GW321.out))); replace HO324 := Aside0.mk (Kd.R_elder' (R_ HO324.out) (Kd.R_base ho0) hb); replace HO327 := Aside0.mk (Kd.N_mono (Kd.N_told (Kd.N_told (Kd.N_old (N_ HO327.out) hb) (Kd.R_base ho0)) (Kd.R_base ho1)) (fun _ h_ => h_.1)); replace BK251 := kb_ BK251 hb; replace BK321 := kb_ BK321 hb; replace HK := Aside0.mk (KeepBut.trans (G2_ HK.out GW251.out GW321.out) (KeepBut.of_below hb g none) (.inl rfl)); replace HB := Aside0.mk (below_step (B3_ HB.out (IsS81.ge HI0.out) GE251.out GE321.out) hb); replace HI0 := Aside0.mk (IsS81.below (i81a2_ HI0.out NB0_251.out NB0_321.out) hb); (try clear hb); (try clear hb2); (try clear hk); (try clear hi); (try clear ho0); (try clear ho1); have hnb78 := NB251_0.out; have hnc78 := NB0_251.out; obtain ⟨hcz79_0, hcz79_1, hcz79_2, hfz79_0, hfz79_1, hfz79_2⟩ := box3_ BK251.out; obtain ⟨Ao80, co80, eo80⟩ := Kd.R_slice HO331.out; subst eo80; obtain ⟨Ao81, co81, eo81⟩ := Kd.N_slice HO334.out; subst eo81))
       refine bodyPost_ret (results_cell_row rfl _ _ gb251 30 #[.int .i64 t328, .slice Ao80 t329.length co80, .slice Ao81 t332.length co81] (0, 0) _ rfl (by (with_reducible repeat (first | refine blk_drewN ?_ _ | refine blk_drew ?_ | refine blk_alloc ?_ _)); refine blk_put (cs := #[.int .i64 t328, .slice Ao80 t329.length co80, .slice none 0 0]) ?_ 2 _ rfl; (with_reducible repeat (first | refine blk_drewN ?_ _ | refine blk_drew ?_ | refine blk_alloc ?_ _)); refine blk_put (cs := #[.int .i64 t328, .slice none 0 0, .slice none 0 0]) ?_ 1 _ rfl; (with_reducible repeat (first | refine blk_drewN ?_ _ | refine blk_drew ?_ | refine blk_alloc ?_ _)); refine blk_put (cs := #[.int .i64 0, .slice none 0 0, .slice none 0 0]) ?_ 0 _ rfl; (with_reducible repeat (first | refine blk_drewN ?_ _ | refine blk_drew ?_ | refine blk_alloc ?_ _)); exact BK251.out) Try.underlying30 rfl (by kernel_rfl)) rfl ?_
       exact ⟨_, _, er_, by (with_reducible repeat (first | apply Kd.R_alloc | apply Kd.R_drewN | apply Kd.R_drew)); exact Kd.R_mono (Kd.R_far (p := ⟨gb251, 2, none⟩) (Kd.R_far (p := ⟨gb251, 1, none⟩) (Kd.R_far (p := ⟨gb251, 0, none⟩) (Kd.R_types HO331.out BK251.out (by decide)) (fun _ hk => hk.2) (.int .i64 t328)) (fun _ hk => hk.2) (.slice Ao80 t329.length co80)) (fun _ hk => hk.2) (.slice Ao81 t332.length co81)) (fun _ hk => hk.1.1.1), by (with_reducible repeat (first | apply Kd.N_alloc | apply Kd.N_drewN | apply Kd.N_drew)); exact Kd.N_mono (Kd.N_far (p := ⟨gb251, 2, none⟩) (Kd.N_far (p := ⟨gb251, 1, none⟩) (Kd.N_far (p := ⟨gb251, 0, none⟩) (Kd.N_mono HO334.out (fun k_ hk => (⟨hk, hk.2.2.2.2.1⟩ : _ ∧ k_ ≠ gb251))) (fun _ hk => hk.2) (.int .i64 t328)) (fun _ hk => hk.2) (.slice Ao80 t329.length co80)) (fun _ hk => hk.2) (.slice Ao81 t332.length co81)) (fun _ hk => ⟨hk.1.1, hk.1.2.1⟩), i81a2_ HI0.out NB0_251.out NB0_321.out, B3_ HB.out (IsS81.ge HI0.out) GE251.out GE321.out, G2_ HK.out GW251.out GW321.out⟩
      ·rw [if_neg c59] at H
       have c59b0 : (t261 == 2) = false := beq_eq_false_iff_ne.mpr c59
       have c59b1 : (t261 != 2) = true := bne_iff_ne.mpr c59
       replace H := Option.bind_eq_some_iff.mp H
       obtain ⟨⟨t335, t336, t339, t342, t343⟩, A820, H⟩ := H
       replace H : ((spec_l3Draw.f kj2 s0_0 t342 t343 (wrap64 (a1 - 1))).bind fun bt348 => ((spec_l3Labeled.f kj2 3 (([(⟨#[97]⟩ : ByteArray), (⟨#[98]⟩ : ByteArray)] : List ByteArray)) (([(⟨t335, t336, t339⟩ : S30), (⟨bt348.1, bt348.2.1, bt348.2.2.1⟩ : S30)] : List (S30)))).bind fun bt360 => (some (bt360.1, bt360.2.1, bt360.2.2, bt348.2.2.2.1, bt348.2.2.2.2)))) = some (r1, r2, r3, r4, r5) := H
       have A82 := Aside0.mk A820
       clear A820
       obtain ⟨y345, hy345⟩ : ∃ y_ : List ByteArray, y_ = (([(⟨#[97]⟩ : ByteArray), (⟨#[98]⟩ : ByteArray)] : List ByteArray)) := ⟨_, rfl⟩
       replace H : ((spec_l3Draw.f kj2 s0_0 t342 t343 (wrap64 (a1 - 1))).bind fun bt348 => ((spec_l3Labeled.f kj2 3 y345 (([(⟨t335, t336, t339⟩ : S30), (⟨bt348.1, bt348.2.1, bt348.2.2.1⟩ : S30)] : List (S30)))).bind fun bt360 => (some (bt360.1, bt360.2.1, bt360.2.2, bt348.2.2.2.1, bt348.2.2.2.2)))) = some (r1, r2, r3, r4, r5) := by first | (rw [hy345]; with_reducible exact H) | (have H2_ := (Option.bind_some _ _).symm.trans H; rw [hy345]; with_reducible exact H2_) | (have H2_ := (Option.bind_some _ _).symm.trans H; with_reducible exact H2_) | with_reducible exact H | (rw [hy345]; exact H) | exact H
       have Ny345 := Aside0.mk hy345
       clear hy345
       replace H := Option.bind_eq_some_iff.mp H
       obtain ⟨⟨t348, t349, t352, t355, t356⟩, A830, H⟩ := H
       replace H : ((spec_l3Labeled.f kj2 3 y345 (([(⟨t335, t336, t339⟩ : S30), (⟨t348, t349, t352⟩ : S30)] : List (S30)))).bind fun bt360 => (some (bt360.1, bt360.2.1, bt360.2.2, t355, t356))) = some (r1, r2, r3, r4, r5) := H
       have A83 := Aside0.mk A830
       clear A830
       obtain ⟨y357, hy357⟩ : ∃ y_ : List (S30), y_ = (([(⟨t335, t336, t339⟩ : S30), (⟨t348, t349, t352⟩ : S30)] : List (S30))) := ⟨_, rfl⟩
       replace H : ((spec_l3Labeled.f kj2 3 y345 y357).bind fun bt360 => (some (bt360.1, bt360.2.1, bt360.2.2, t355, t356))) = some (r1, r2, r3, r4, r5) := by first | (rw [hy357]; with_reducible exact H) | (have H2_ := (Option.bind_some _ _).symm.trans H; rw [hy357]; with_reducible exact H2_) | (have H2_ := (Option.bind_some _ _).symm.trans H; with_reducible exact H2_) | with_reducible exact H | (rw [hy357]; exact H) | exact H
       have Ny357 := Aside0.mk hy357
       clear hy357
       replace H := Option.bind_eq_some_iff.mp H
       obtain ⟨⟨t360, t361, t364⟩, A840, H⟩ := H
       replace H : (some (t360, t361, t364, t355, t356)) = some (r1, r2, r3, r4, r5) := H
       have A84 := Aside0.mk A840
       clear A840
       simp only [Option.some.injEq, Prod.mk.injEq] at H
       obtain ⟨rfl, rfl, rfl, rfl, rfl⟩ := H
       try go_wp2_with (first | ((with_reducible refine gate_callee (f := 74) rfl ?_); refine goesL_ (some 19) rfl rfl Try.func74 (by kernel_rfl) rfl #[.pointer (some ⟨g, 0, none⟩), .int .i64 4] rfl ma_ ?_; (with_reducible refine (spec_l1Below.calls g s0_0 x1001_2 x1002_2 4 t261 t262 t263 w0 _ ?side1 ?side2 A16.out).mono ?_); (case side1 => repeat (first | (with_reducible first | exact HI0.out | apply IsS81.alloc | apply IsS81.drewN | apply IsS81.drew | apply IsS81.set_1 | apply IsS81.set_2 | refine IsS81.far ?_ NB0_251.out _) | exact HI0.out)); (case side2 => repeat (first | (with_reducible first | exact HB.out | apply below_alloc | apply pw_below_drewN | apply below_drew1 | refine below_set ?_ (IsS81.ge HI0.out) | refine below_set ?_ GE251.out) | exact HB.out)); rintro e w85 ⟨rfl, hi, hb, hk⟩; refine ⟨_, rfl, ?_⟩; replace BK251 := Aside0.mk (KeepBut.blk hk (g' := gb251) (o := .cells #[.int .i64 0, .slice none 0 0, .slice none 0 0] 30 (0, 0)) (K_ BK251.out) NB251_0.out (by simp)); replace HK := Aside0.mk (KeepBut.trans (G1_ HK.out GW251.out) hk (.inl rfl)); replace HB := Aside0.mk (hb); replace HI0 := Aside0.mk (hi); (try clear hb); (try clear hb2); (try clear hk); (try clear hi)) | ((with_reducible refine gate_callee (f := 73) rfl ?_); refine goesL_ (some 55) rfl rfl Try.func73 (by kernel_rfl) rfl #[.pointer (some ⟨g, 0, none⟩), .int .i64 (wrap64 (a1 - 1))] rfl ma_ ?_; (with_reducible refine (ih kj2 (by have := HJ2.out; omega) g s0_0 t262 t263 (wrap64 (a1 - 1)) t335 t336 t339 t342 t343 w0 _ ?side1 ?side2 A82.out).mono ?_); (case side1 => repeat (first | (with_reducible first | exact HI0.out | apply IsS81.alloc | apply IsS81.drewN | apply IsS81.drew | apply IsS81.set_1 | apply IsS81.set_2 | refine IsS81.far ?_ NB0_251.out _) | exact HI0.out)); (case side2 => repeat (first | (with_reducible first | exact HB.out | apply below_alloc | apply pw_below_drewN | apply below_drew1 | refine below_set ?_ (IsS81.ge HI0.out) | refine below_set ?_ GE251.out) | exact HB.out)); rintro e w86 ⟨v337, v340, rfl, ho0, ho1, hi, hb, hk⟩; refine ⟨_, rfl, ?_⟩; have HO338 := Aside0.mk (Kd.R_lower (Kd.R_newM (M := fun k_ => (w.heap.size ≤ k_)) (Kd.R_mono (ok' := fun k_ => True) ho0 (fun _ hk_ => trivial)) (keep_size (w := w) (g := g) (row := none) (G1_ HK.out GW251.out)) (fun k_ h_ => h_)) (keep_size (w := w) (g := g) (row := none) (G1_ HK.out GW251.out))); have HO341 := Aside0.mk (Kd.N_lower (Kd.N_mono (ok' := fun k_ => (w.heap.size ≤ k_) ∧ some k_ ≠ (v337 : Value).ownBlock ∧ k_ ≠ gb251 ∧ k_ ≠ g) ho1 (fun k_ hk_ => ⟨(Nat.le_trans (keep_size (w := w) (g := g) (row := none) (G1_ HK.out GW251.out)) hk_.1), hk_.2, (Kd.freshB (K_ BK251.out) k_ hk_.1), (IsS81.fresh (i81a1_ HI0.out NB0_251.out) k_ hk_.1)⟩)) (keep_size (w := w) (g := g) (row := none) (G1_ HK.out GW251.out))); replace BK251 := Aside0.mk (KeepBut.blk hk (g' := gb251) (o := .cells #[.int .i64 0, .slice none 0 0, .slice none 0 0] 30 (0, 0)) (K_ BK251.out) NB251_0.out (by simp)); replace HK := Aside0.mk (KeepBut.trans (G1_ HK.out GW251.out) hk (.inl rfl)); replace HB := Aside0.mk (hb); replace HI0 := Aside0.mk (hi); (try clear hb); (try clear hb2); (try clear hk); (try clear hi); (try clear ho0); (try clear ho1)) | ((with_reducible refine gate_dst (N := 7) rfl ?_); refine box_event ?hg (N := 7) ?hd (cs := #[.int .i64 0, .slice none 0 0, .slice none 0 0]) (t := 30) ?hr ?_; (case hd => rfl); (case hg => rfl); (case hr => first | (go_simp; done) | (go_simp; rfl)); intro gb344 hg w87 hbox hb; replace HO338 := rb_ HO338 hb; replace HO341 := Aside0.mk (Kd.N_below (Kd.N_elderB (N_ HO341.out) gb344 (Nat.le_of_eq hg.symm)) hb); replace HB := Aside0.mk (below_step (B2_ HB.out (IsS81.ge HI0.out) GE251.out) hb); have BK344 := Aside0.mk (hbox); have GW344 := Aside0.mk ((by rw [hg]; exact (keep_size (w := w) (g := g) (row := none) (G1_ HK.out GW251.out)) : w.heap.size ≤ gb344)); have GE344 := Aside0.mk ((Nat.le_trans HW0.out (by rw [hg]; exact (keep_size (w := w) (g := g) (row := none) (G1_ HK.out GW251.out)) : w.heap.size ≤ gb344) : w0.heap.size ≤ gb344)); replace HK := Aside0.mk (KeepBut.trans (G1_ HK.out GW251.out) (KeepBut.of_below hb g none) (.inl rfl)); have NB251_344 := Aside0.mk ((by rw [hg]; exact Nat.ne_of_lt (blk_lt (K_ BK251.out)) : gb251 ≠ gb344)); have NB344_251 := Aside0.mk ((by rw [hg]; exact Nat.ne_of_gt (blk_lt (K_ BK251.out)) : gb344 ≠ gb251)); replace BK251 := kb_ BK251 hb; have NB0_344 := Aside0.mk ((by rw [hg]; exact Nat.ne_of_lt (IsS81.lt (show IsS81 w0 _ g s0_0 t342 t343 from i81a1_ HI0.out NB0_251.out)) : g ≠ gb344)); have NB344_0 := Aside0.mk ((by rw [hg]; exact Nat.ne_of_gt (IsS81.lt (show IsS81 w0 _ g s0_0 t342 t343 from i81a1_ HI0.out NB0_251.out)) : gb344 ≠ g)); replace HI0 := Aside0.mk (IsS81.below (i81a1_ HI0.out NB0_251.out) hb); clear hb hbox hg; have hnb88 := NB344_251.out; have hnc88 := NB251_344.out; have hnb89 := NB344_0.out; have hnc89 := NB0_344.out; obtain ⟨hcz90_0, hcz90_1, hcz90_2, hfz90_0, hfz90_1, hfz90_2⟩ := box3_ BK344.out; obtain ⟨Ao91, co91, eo91⟩ := Kd.R_slice HO338.out; subst eo91; obtain ⟨Ao92, co92, eo92⟩ := Kd.N_slice HO341.out; subst eo92))
       have n0_ : Aside0 (Kd.R Kd.string 9 (((w87.setCell ⟨gb344, 0, none⟩ (.int .i64 t335)).setCell ⟨gb344, 1, none⟩ (.slice Ao91 t336.length co91)).setCell ⟨gb344, 2, none⟩ (.slice Ao92 t339.length co92)) w.heap.size (fun k_ => (w.heap.size ≤ k_)) (.slice Ao91 t336.length co91) t336) := ⟨by (with_reducible repeat (first | apply Kd.R_alloc | apply Kd.R_drewN | apply Kd.R_drew)); exact Kd.R_mono (Kd.R_far (p := ⟨gb344, 2, none⟩) (Kd.R_far (p := ⟨gb344, 1, none⟩) (Kd.R_far (p := ⟨gb344, 0, none⟩) (Kd.R_types HO338.out BK344.out (by decide)) (fun _ hk => hk.2) (.int .i64 t335)) (fun _ hk => hk.2) (.slice Ao91 t336.length co91)) (fun _ hk => hk.2) (.slice Ao92 t339.length co92)) (fun _ hk => hk.1.1)⟩
       have n1_ : Aside0 (Kd.N k30 30 (((w87.setCell ⟨gb344, 0, none⟩ (.int .i64 t335)).setCell ⟨gb344, 1, none⟩ (.slice Ao91 t336.length co91)).setCell ⟨gb344, 2, none⟩ (.slice Ao92 t339.length co92)) w.heap.size (fun k_ => (w.heap.size ≤ k_) ∧ some k_ ≠ (.slice Ao91 t336.length co91 : Value).ownBlock ∧ k_ ≠ gb251 ∧ k_ ≠ g ∧ k_ ≠ gb344) (.slice Ao92 t339.length co92) t339) := ⟨by (with_reducible repeat (first | apply Kd.N_alloc | apply Kd.N_drewN | apply Kd.N_drew)); exact Kd.N_mono (Kd.N_far (p := ⟨gb344, 2, none⟩) (Kd.N_far (p := ⟨gb344, 1, none⟩) (Kd.N_far (p := ⟨gb344, 0, none⟩) (Kd.N_mono HO341.out (fun k_ hk => (⟨hk, hk.2⟩ : _ ∧ k_ ≠ gb344))) (fun _ hk => hk.2) (.int .i64 t335)) (fun _ hk => hk.2) (.slice Ao91 t336.length co91)) (fun _ hk => hk.2) (.slice Ao92 t339.length co92)) (fun _ hk => ⟨hk.1.1.1, ⟨hk.1.1.2.1, ⟨hk.1.1.2.2.1, ⟨hk.1.1.2.2.2, hk.1.2⟩⟩⟩⟩)⟩
       have n2_ : Aside0 ((((w87.setCell ⟨gb344, 0, none⟩ (.int .i64 t335)).setCell ⟨gb344, 1, none⟩ (.slice Ao91 t336.length co91)).setCell ⟨gb344, 2, none⟩ (.slice Ao92 t339.length co92)).heap[gb251]? = some (.cells #[.int .i64 0, .slice none 0 0, .slice none 0 0] 30 (0, 0))) := ⟨by (with_reducible repeat (first | refine blk_drewN ?_ _ | refine blk_drew ?_ | refine blk_alloc ?_ _)); refine blk_far ?_ NB251_344.out _; (with_reducible repeat (first | refine blk_drewN ?_ _ | refine blk_drew ?_ | refine blk_alloc ?_ _)); refine blk_far ?_ NB251_344.out _; (with_reducible repeat (first | refine blk_drewN ?_ _ | refine blk_drew ?_ | refine blk_alloc ?_ _)); refine blk_far ?_ NB251_344.out _; (with_reducible repeat (first | refine blk_drewN ?_ _ | refine blk_drew ?_ | refine blk_alloc ?_ _)); exact BK251.out⟩
       have n3_ : Aside0 ((((w87.setCell ⟨gb344, 0, none⟩ (.int .i64 t335)).setCell ⟨gb344, 1, none⟩ (.slice Ao91 t336.length co91)).setCell ⟨gb344, 2, none⟩ (.slice Ao92 t339.length co92)).heap[gb344]? = some (.cells #[.int .i64 t335, .slice Ao91 t336.length co91, .slice Ao92 t339.length co92] 30 (0, 0))) := ⟨by (with_reducible repeat (first | refine blk_drewN ?_ _ | refine blk_drew ?_ | refine blk_alloc ?_ _)); refine blk_put (cs := #[.int .i64 t335, .slice Ao91 t336.length co91, .slice none 0 0]) ?_ 2 _ rfl; (with_reducible repeat (first | refine blk_drewN ?_ _ | refine blk_drew ?_ | refine blk_alloc ?_ _)); refine blk_put (cs := #[.int .i64 t335, .slice none 0 0, .slice none 0 0]) ?_ 1 _ rfl; (with_reducible repeat (first | refine blk_drewN ?_ _ | refine blk_drew ?_ | refine blk_alloc ?_ _)); refine blk_put (cs := #[.int .i64 0, .slice none 0 0, .slice none 0 0]) ?_ 0 _ rfl; (with_reducible repeat (first | refine blk_drewN ?_ _ | refine blk_drew ?_ | refine blk_alloc ?_ _)); exact BK344.out⟩
       have n4_ : Aside0 (IsS81 w0 (((w87.setCell ⟨gb344, 0, none⟩ (.int .i64 t335)).setCell ⟨gb344, 1, none⟩ (.slice Ao91 t336.length co91)).setCell ⟨gb344, 2, none⟩ (.slice Ao92 t339.length co92)) g s0_0 t342 t343) := ⟨i81a2_ HI0.out NB0_251.out NB0_344.out⟩
       have n5_ : Aside0 (KeepBut w (((w87.setCell ⟨gb344, 0, none⟩ (.int .i64 t335)).setCell ⟨gb344, 1, none⟩ (.slice Ao91 t336.length co91)).setCell ⟨gb344, 2, none⟩ (.slice Ao92 t339.length co92)) g none) := ⟨G2_ HK.out GW251.out GW344.out⟩
       have n6_ : Aside0 (Below w0.heap.size w0 (((w87.setCell ⟨gb344, 0, none⟩ (.int .i64 t335)).setCell ⟨gb344, 1, none⟩ (.slice Ao91 t336.length co91)).setCell ⟨gb344, 2, none⟩ (.slice Ao92 t339.length co92))) := ⟨B3_ HB.out (IsS81.ge HI0.out) GE251.out GE344.out⟩
       (try clear HO338)
       (try clear HO341)
       (try clear BK251)
       (try clear BK344)
       (try clear HI0)
       (try clear HK)
       (try clear HB)
       generalize (((w87.setCell ⟨gb344, 0, none⟩ (.int .i64 t335)).setCell ⟨gb344, 1, none⟩ (.slice Ao91 t336.length co91)).setCell ⟨gb344, 2, none⟩ (.slice Ao92 t339.length co92)) = w93 at n0_ n1_ n2_ n3_ n4_ n5_ n6_ ⊢
       have HO338 := n0_
       have HO341 := n1_
       have BK251 := n2_
       have BK344 := n3_
       have HI0 := n4_
       have HK := n5_
       have HB := n6_
       clear n0_ n1_ n2_ n3_ n4_ n5_ n6_
       replace HO338 := Aside0.mk (Kd.R_drew HO338.out)
       replace HO341 := Aside0.mk (Kd.N_drew HO341.out)
       replace BK251 := Aside0.mk (blk_drew BK251.out)
       replace BK344 := Aside0.mk (blk_drew BK344.out)
       replace HI0 := Aside0.mk (IsS81.drew HI0.out)
       replace HK := Aside0.mk (keep_drew HK.out)
       replace HB := Aside0.mk (below_drew1 HB.out)
       refine start_ (n := 9) (S := fun w' => w'.cell? ⟨gb344, 0, none⟩ = some (.int .i64 t335) ∧ w'.cell? ⟨gb344, 1, none⟩ = some (.slice Ao91 t336.length co91) ∧ w'.cell? ⟨gb344, 2, none⟩ = some (.slice Ao92 t339.length co92)) (ds := []) #[false, false, false, false, false, false, false, false, false] (by kernel_rfl) rfl rfl ⟨(blk_cell BK344.out 0).trans rfl, (blk_cell BK344.out 1).trans rfl, (blk_cell BK344.out 2).trans rfl⟩ (fun hHeld => ?_); refine with_tabW spec_l3Draw.tab13 spec_l3Draw.bits13 (fun HT_ HW_ => ?_)
       generalize w93.drew = w94 at HO338 HO341 BK251 BK344 HI0 HK HB hHeld ⊢
       refine pu_ HT_ (i := 2) (N := some 58) (mk_ 9 4) rfl rfl ?_
       refine pu_ HT_ (i := 3) (N := some 59) (mk_ 9 12) rfl rfl ?_
       refine pu_ HT_ (i := 4) (N := some 60) (mk_ 9 28) rfl rfl ?_
       refine tk_ HT_ HW_ hHeld (i := 1) (N := some 57) (mk_ 9 30) rfl rfl ?_
       refine join_ (σ := Value × Value × Value × Value) 2 #[true, true, true, true, true, true, true, false, false] (fun s_ => [(56, s_.1), (61, .agg #[.int .i64 t348, s_.2.1, s_.2.2.1]), (62, s_.2.2.2)]) (fun s_ w' => (w'.cell? ⟨gb344, 0, none⟩ = some (.int .i64 t335) ∧ w'.cell? ⟨gb344, 1, none⟩ = some (.slice Ao91 t336.length co91) ∧ w'.cell? ⟨gb344, 2, none⟩ = some (.slice Ao92 t339.length co92)) ∧ (Kd.R Kd.string 9 w' w.heap.size (fun k_ => (w.heap.size ≤ k_)) s_.1 y345) ∧ (Kd.N k30 30 w' w.heap.size (fun k_ => (w.heap.size ≤ k_) ∧ some k_ ≠ (s_.1 : Value).ownBlock ∧ k_ ≠ g ∧ k_ ≠ gb251 ∧ k_ ≠ gb344) s_.2.2.2 y357) ∧ (w'.heap[gb251]? = some (.cells #[.int .i64 0, .slice none 0 0, .slice none 0 0] 30 (0, 0))) ∧ (w'.heap[gb344]? = some (.cells #[.int .i64 t335, .slice Ao91 t336.length co91, .slice Ao92 t339.length co92] 30 (0, 0))) ∧ (IsS81 w0 w' g s0_0 t355 t356) ∧ (KeepBut w w' g none) ∧ (Below w0.heap.size w0 w')) ?_ ?_
       rotate_left
       ·intro hCont
        refine two_ (i := 0) (j := 5) (Ni := some 56) (Nj := some 61) #[true, true, true, true, true, false, false, false, false] #[false, true, true, true, true, true, false, false, false] rfl rfl rfl rfl (two_of HT_.out (by kernel_rfl)) (by decide) (by decide) (fun K hK => ?_) (fun K hK => ?_)
        ·skip
         refine Kd.R_lit_step Kd.string _ 9 ?hg (N := 56) ?hd (xs := ([(⟨#[97]⟩ : ByteArray), (⟨#[98]⟩ : ByteArray)] : List ByteArray)) (inner := [.string (⟨#[97]⟩ : ByteArray), .string (⟨#[98]⟩ : ByteArray)]) (ok := fun _ => True) (okp := fun _ => True) ?hr ?hp (fun _ hk => hk) trivial (Below.refl _ _) (Nat.le_refl _) (by simp) ?_; (case hd => rfl); (case hg => rfl); (case hr => first | (go_simp; done) | (go_simp; rfl)); (case hp => exact (Reps.one (show Kd.M Kd.string _ _ _ (⟨#[97]⟩ : ByteArray) [.string (⟨#[97]⟩ : ByteArray)] from rfl) (Reps.one (show Kd.M Kd.string _ _ _ (⟨#[98]⟩ : ByteArray) [.string (⟨#[98]⟩ : ByteArray)] from rfl) (Reps.none _ _))))
         intro v346 w95 ho96 hb hg_ hnew_
         clear hg_ hnew_
         (first | rw [← Ny345.out] at ho96 | (simp only [Int.reduceToNat] at ho96; rw [← Ny345.out] at ho96))
         replace HO341 := Aside0.mk (Kd.N_elder' (N_ HO341.out) (Kd.R_base ho96) hb)
         have HO347 := Aside0.mk (Kd.R_lower (Kd.R_new' (Kd.R_newM (M := fun k_ => (w.heap.size ≤ k_)) ho96 (keep_size (w := w) (g := g) (row := none) (G2_ HK.out GW251.out GW344.out)) (fun k_ h_ => h_)) (Kd.R_lt (R_ HO338.out))) (keep_size (w := w) (g := g) (row := none) (G2_ HK.out GW251.out GW344.out)))
         replace HO338 := Aside0.mk (Kd.R_elder' (R_ HO338.out) (Kd.R_base ho96) hb)
         replace BK251 := kb_ BK251 hb
         replace BK344 := kb_ BK344 hb
         replace HK := Aside0.mk (KeepBut.trans (G2_ HK.out GW251.out GW344.out) (KeepBut.of_below hb g none) (.inl rfl))
         replace HB := Aside0.mk (below_step (B3_ HB.out (IsS81.ge HI0.out) GE251.out GE344.out) hb)
         replace HI0 := Aside0.mk (IsS81.below (i81a2_ HI0.out NB0_251.out NB0_344.out) hb)
         clear hb ho96
         refine hK.out _ _ ⟨(blk_cell BK344.out 0).trans rfl, (blk_cell BK344.out 1).trans rfl, (blk_cell BK344.out 2).trans rfl⟩ (fun hHeld => ?_)
         clear hK K
         refine nm_ (some 56) ?_
         refine on_ HT_ (i := 5) (N := some 61) (mk_ 9 63) rfl rfl (fun K hK => ?_)
         refine goes_ Try.func73 (by kernel_rfl) rfl #[.pointer (some ⟨g, 0, none⟩), .int .i64 (wrap64 (a1 - 1))] (by rfl) rfl rfl ma_ ?_
         with_reducible refine (ih kj2 (by have := HJ2.out; omega) g s0_0 t342 t343 (wrap64 (a1 - 1)) t348 t349 t352 t355 t356 w0 _ ?side1 ?side2 A83.out).mono ?_
         (case side1 => repeat (first | (with_reducible first | exact HI0.out | apply IsS81.alloc | apply IsS81.drewN | apply IsS81.drew | apply IsS81.set_1 | apply IsS81.set_2 | refine IsS81.far ?_ NB0_251.out _ | refine IsS81.far ?_ NB0_344.out _) | exact HI0.out))
         (case side2 => repeat (first | (with_reducible first | exact HB.out | apply below_alloc | apply pw_below_drewN | apply below_drew1 | refine below_set ?_ (IsS81.ge HI0.out) | refine below_set ?_ GE251.out | refine below_set ?_ GE344.out) | exact HB.out))
         rintro e w97 ⟨v350, v353, rfl, ho0, ho1, hi, hb, hk⟩
         refine ⟨_, rfl, ?_⟩
         have HO351 := Aside0.mk (Kd.R_lower (Kd.R_new' (Kd.R_new' (Kd.R_newM (M := fun k_ => (w.heap.size ≤ k_)) (Kd.R_mono (ok' := fun k_ => True) ho0 (fun _ hk_ => trivial)) (keep_size (w := w) (g := g) (row := none) (G2_ HK.out GW251.out GW344.out)) (fun k_ h_ => h_)) (Kd.R_lt (R_ HO338.out))) (Kd.R_lt (R_ HO347.out))) (keep_size (w := w) (g := g) (row := none) (G2_ HK.out GW251.out GW344.out)))
         have HO354 := Aside0.mk (Kd.N_lower (Kd.N_mono (ok' := fun k_ => (w.heap.size ≤ k_) ∧ some k_ ≠ (v350 : Value).ownBlock ∧ some k_ ≠ (.slice Ao91 t336.length co91 : Value).ownBlock ∧ some k_ ≠ (.slice Ao92 t339.length co92 : Value).ownBlock ∧ some k_ ≠ (v346 : Value).ownBlock ∧ k_ ≠ gb251 ∧ k_ ≠ gb344 ∧ k_ ≠ g) ho1 (fun k_ hk_ => ⟨(Nat.le_trans (keep_size (w := w) (g := g) (row := none) (G2_ HK.out GW251.out GW344.out)) hk_.1), hk_.2, (Kd.fresh' (Kd.R_lt (R_ HO338.out)) k_ hk_.1), (Kd.fresh' (Kd.N_lt (N_ HO341.out)) k_ hk_.1), (Kd.fresh' (Kd.R_lt (R_ HO347.out)) k_ hk_.1), (Kd.freshB (K_ BK251.out) k_ hk_.1), (Kd.freshB (K_ BK344.out) k_ hk_.1), (IsS81.fresh (i81a2_ HI0.out NB0_251.out NB0_344.out) k_ hk_.1)⟩)) (keep_size (w := w) (g := g) (row := none) (G2_ HK.out GW251.out GW344.out)))
         replace BK251 := Aside0.mk (KeepBut.blk hk (g' := gb251) (o := .cells #[.int .i64 0, .slice none 0 0, .slice none 0 0] 30 (0, 0)) (K_ BK251.out) NB251_0.out (by simp))
         replace HO338 := Aside0.mk (Kd.R_mono (Kd.R_told (Kd.R_oldK (IsS81.apart (show IsS81 w0 _ g s0_0 t342 t343 from i81a2_ HI0.out NB0_251.out NB0_344.out) (R_ HO338.out) (by decide)) hk) (Kd.R_base ho0)) (fun _ h_ => h_.1))
         replace HO341 := Aside0.mk (Kd.N_mono (Kd.N_told (Kd.N_told (Kd.N_oldK (Kd.N_mono (ok := fun k_ => ((((w.heap.size ≤ k_)) ∧ (some k_ ≠ (.slice Ao91 t336.length co91 : Value).ownBlock ∧ (k_ ≠ gb251 ∧ (k_ ≠ g ∧ k_ ≠ gb344)))) ∧ some k_ ≠ (v346 : Value).ownBlock)) (N_ HO341.out) (fun k_ hk_ => (⟨hk_, hk_.1.2.2.2.1⟩ : _ ∧ k_ ≠ g))) hk) (Kd.R_base ho0)) (Kd.N_base ho1)) (fun _ h_ => h_.1))
         replace BK344 := Aside0.mk (KeepBut.blk hk (g' := gb344) (o := .cells #[.int .i64 t335, .slice Ao91 t336.length co91, .slice Ao92 t339.length co92] 30 (0, 0)) (K_ BK344.out) NB344_0.out (by simp))
         replace HO347 := Aside0.mk (Kd.R_mono (Kd.R_told (Kd.R_oldK (IsS81.apart (show IsS81 w0 _ g s0_0 t342 t343 from i81a2_ HI0.out NB0_251.out NB0_344.out) (R_ HO347.out) (by decide)) hk) (Kd.R_base ho0)) (fun _ h_ => h_.1))
         replace HK := Aside0.mk (KeepBut.trans (G2_ HK.out GW251.out GW344.out) hk (.inl rfl))
         replace HB := Aside0.mk (hb)
         replace HI0 := Aside0.mk (hi)
         (try clear hb)
         (try clear hb2)
         (try clear hk)
         (try clear hi)
         (try clear ho0)
         (try clear ho1)
         obtain ⟨Ao98, co98, eo98⟩ := Kd.R_slice HO351.out
         (first | subst eo98 | (injection eo98 with f1_ f2_ f3_; have f4_ := f1_.symm; have f5_ := f3_.symm; clear f1_ f2_ f3_; subst f4_; subst f5_))
         obtain ⟨Ao99, co99, eo99⟩ := Kd.N_slice HO354.out
         (first | subst eo99 | (injection eo99 with f1_ f2_ f3_; have f4_ := f1_.symm; have f5_ := f3_.symm; clear f1_ f2_ f3_; subst f4_; subst f5_))
         refine hK.out _ _ ⟨(blk_cell BK344.out 0).trans rfl, (blk_cell BK344.out 1).trans rfl, (blk_cell BK344.out 2).trans rfl⟩ (fun hHeld => ?_)
         clear hK K
         refine nm_ (some 61) ?_
         refine on_ HT_ (i := 6) (N := some 62) (mk_ 9 127) rfl rfl (fun K hK => ?_)
         refine Kd.N_lit_step k30 _ 30 ?hg (N' := 62) ?hd (xs := ([(⟨t335, t336, t339⟩ : S30), (⟨t348, t349, t352⟩ : S30)] : List (S30))) (inner := [.int .i64 t335, .slice Ao91 t336.length co91, .slice Ao92 t339.length co92, .int .i64 t348, .slice Ao98 t349.length co98, .slice Ao99 t352.length co99]) (ok := (fun k_ => (w.heap.size ≤ k_) ∧ some k_ ≠ (v346 : Value).ownBlock ∧ k_ ≠ gb251 ∧ k_ ≠ gb344 ∧ k_ ≠ g)) (okp := (fun k_ => (w.heap.size ≤ k_) ∧ some k_ ≠ (v346 : Value).ownBlock ∧ k_ ≠ gb251 ∧ k_ ≠ gb344 ∧ k_ ≠ g)) ?hr ?hp (fun _ hk => hk) ((show ∀ k_, w97.heap.size ≤ k_ → (fun k_ => (w.heap.size ≤ k_) ∧ some k_ ≠ (v346 : Value).ownBlock ∧ k_ ≠ gb251 ∧ k_ ≠ gb344 ∧ k_ ≠ g) k_ from fun k_ hk => ⟨(Nat.le_trans (keep_size (w := w) (g := g) (row := none) (G2_ HK.out GW251.out GW344.out)) hk), Kd.fresh' (Kd.R_lt (R_ HO347.out)) k_ hk, Kd.freshB (K_ BK251.out) k_ hk, Kd.freshB (K_ BK344.out) k_ hk, IsS81.fresh (i81a2_ HI0.out NB0_251.out NB0_344.out) k_ hk⟩) _ (Nat.le_refl _)) (Below.refl _ _) (Nat.le_refl _) (by simp) ?_; (case hd => rfl); (case hg => rfl); (case hr => first | (go_simp; done) | (go_simp; rfl)); (case hp => exact (Reps.c3 (show Kd.FK k30 _ _ (⟨t335, t336, t339⟩ : S30) [.int .i64 t335, .slice Ao91 t336.length co91, .slice Ao92 t339.length co92] from (k30_mkF _ _ (⟨t335, t336, t339⟩ : S30) (Kd.R_reads' (Kd.R_mono (ok' := (fun k_ => (w.heap.size ≤ k_) ∧ some k_ ≠ (v346 : Value).ownBlock ∧ k_ ≠ gb251 ∧ k_ ≠ gb344 ∧ k_ ≠ g)) (IsS81.apart HI0.out (Kd.R_types (Kd.R_types (HO338.out) BK251.out (by decide)) BK344.out (by decide)) (by decide)) (fun k_ hk => ⟨hk.1.1.1.1.1, ⟨hk.1.1.1.1.2, ⟨hk.1.1.2, ⟨hk.1.2, hk.2⟩⟩⟩⟩))).2.1 (Kd.R_F (Kd.R_mono (ok' := (fun k_ => (w.heap.size ≤ k_) ∧ some k_ ≠ (v346 : Value).ownBlock ∧ k_ ≠ gb251 ∧ k_ ≠ gb344 ∧ k_ ≠ g)) (IsS81.apart HI0.out (Kd.R_types (Kd.R_types (HO338.out) BK251.out (by decide)) BK344.out (by decide)) (by decide)) (fun k_ hk => ⟨hk.1.1.1.1.1, ⟨hk.1.1.1.1.2, ⟨hk.1.1.2, ⟨hk.1.2, hk.2⟩⟩⟩⟩))) (Kd.N_reads' (Kd.N_mono (ok' := (fun k_ => (w.heap.size ≤ k_) ∧ some k_ ≠ (v346 : Value).ownBlock ∧ k_ ≠ gb251 ∧ k_ ≠ gb344 ∧ k_ ≠ g)) (HO341.out) (fun k_ hk => ⟨hk.1.1.1.1, ⟨hk.1.1.2, ⟨hk.1.1.1.2.2.1, ⟨hk.1.1.1.2.2.2.2, hk.1.1.1.2.2.2.1⟩⟩⟩⟩))).2.1 (Kd.N_F (Kd.N_mono (ok' := (fun k_ => (w.heap.size ≤ k_) ∧ some k_ ≠ (v346 : Value).ownBlock ∧ k_ ≠ gb251 ∧ k_ ≠ gb344 ∧ k_ ≠ g)) (HO341.out) (fun k_ hk => ⟨hk.1.1.1.1, ⟨hk.1.1.2, ⟨hk.1.1.1.2.2.1, ⟨hk.1.1.1.2.2.2.2, hk.1.1.1.2.2.2.1⟩⟩⟩⟩))))) (Reps.c3 (show Kd.FK k30 _ _ (⟨t348, t349, t352⟩ : S30) [.int .i64 t348, .slice Ao98 t349.length co98, .slice Ao99 t352.length co99] from (k30_mkF _ _ (⟨t348, t349, t352⟩ : S30) (Kd.R_reads' (Kd.R_mono (ok' := (fun k_ => (w.heap.size ≤ k_) ∧ some k_ ≠ (v346 : Value).ownBlock ∧ k_ ≠ gb251 ∧ k_ ≠ gb344 ∧ k_ ≠ g)) (IsS81.apart HI0.out (Kd.R_types (Kd.R_types (HO351.out) BK251.out (by decide)) BK344.out (by decide)) (by decide)) (fun k_ hk => ⟨hk.1.1.1.1.1.1, ⟨hk.1.1.1.2, ⟨hk.1.1.2, ⟨hk.1.2, hk.2⟩⟩⟩⟩))).2.1 (Kd.R_F (Kd.R_mono (ok' := (fun k_ => (w.heap.size ≤ k_) ∧ some k_ ≠ (v346 : Value).ownBlock ∧ k_ ≠ gb251 ∧ k_ ≠ gb344 ∧ k_ ≠ g)) (IsS81.apart HI0.out (Kd.R_types (Kd.R_types (HO351.out) BK251.out (by decide)) BK344.out (by decide)) (by decide)) (fun k_ hk => ⟨hk.1.1.1.1.1.1, ⟨hk.1.1.1.2, ⟨hk.1.1.2, ⟨hk.1.2, hk.2⟩⟩⟩⟩))) (Kd.N_reads' (Kd.N_mono (ok' := (fun k_ => (w.heap.size ≤ k_) ∧ some k_ ≠ (v346 : Value).ownBlock ∧ k_ ≠ gb251 ∧ k_ ≠ gb344 ∧ k_ ≠ g)) (HO354.out) (fun k_ hk => ⟨hk.1, ⟨hk.2.2.2.2.1, ⟨hk.2.2.2.2.2.1, ⟨hk.2.2.2.2.2.2.1, hk.2.2.2.2.2.2.2⟩⟩⟩⟩))).2.1 (Kd.N_F (Kd.N_mono (ok' := (fun k_ => (w.heap.size ≤ k_) ∧ some k_ ≠ (v346 : Value).ownBlock ∧ k_ ≠ gb251 ∧ k_ ≠ gb344 ∧ k_ ≠ g)) (HO354.out) (fun k_ hk => ⟨hk.1, ⟨hk.2.2.2.2.1, ⟨hk.2.2.2.2.2.1, ⟨hk.2.2.2.2.2.2.1, hk.2.2.2.2.2.2.2⟩⟩⟩⟩))))) (Reps.none _ _))))
         intro v358 w100 ho101 hb hg_ hnew_
         clear hg_ hnew_
         (first | rw [← Ny357.out] at ho101 | (simp only [Int.reduceToNat] at ho101; rw [← Ny357.out] at ho101))
         replace HO347 := rb_ HO347 hb
         have HO359 := Aside0.mk (Kd.N_lower ho101 (keep_size (w := w) (g := g) (row := none) (G2_ HK.out GW251.out GW344.out)))
         replace BK251 := kb_ BK251 hb
         replace BK344 := kb_ BK344 hb
         replace HK := Aside0.mk (KeepBut.trans (G2_ HK.out GW251.out GW344.out) (KeepBut.of_below hb g none) (.inl rfl))
         replace HB := Aside0.mk (below_step (B3_ HB.out (IsS81.ge HI0.out) GE251.out GE344.out) hb)
         replace HI0 := Aside0.mk (IsS81.below (i81a2_ HI0.out NB0_251.out NB0_344.out) hb)
         clear HO338 HO341 HO351 HO354
         clear hb ho101
         refine hK.out _ _ ⟨(blk_cell BK344.out 0).trans rfl, (blk_cell BK344.out 1).trans rfl, (blk_cell BK344.out 2).trans rfl⟩ (fun hHeld => ?_)
         clear hK K
         refine nm_ (some 62) ?_
         exact norm_ (by simp only [putAll, Act.put, List.setIfInBounds_toArray, List.set_cons_zero, List.set_cons_succ]) (hCont (v346, .slice Ao98 t349.length co98, .slice Ao99 t352.length co99, v358) _ ⟨hHeld, (by (with_reducible repeat (first | apply Kd.R_alloc | apply Kd.R_drewN | apply Kd.R_drew)); exact Kd.R_mono HO347.out (fun _ hk => hk.1.1.1)), (by (with_reducible repeat (first | apply Kd.N_alloc | apply Kd.N_drewN | apply Kd.N_drew)); exact Kd.N_mono HO359.out (fun _ hk => ⟨hk.1, ⟨hk.2.1, ⟨hk.2.2.2.2, ⟨hk.2.2.1, hk.2.2.2.1⟩⟩⟩⟩)), (K_ BK251.out), (K_ BK344.out), (i81a2_ HI0.out NB0_251.out NB0_344.out), (G2_ HK.out GW251.out GW344.out), (B3_ HB.out (IsS81.ge HI0.out) GE251.out GE344.out)⟩)
        ·skip
         refine goes_ Try.func73 (by kernel_rfl) rfl #[.pointer (some ⟨g, 0, none⟩), .int .i64 (wrap64 (a1 - 1))] (by rfl) rfl rfl ma_ ?_
         with_reducible refine (ih kj2 (by have := HJ2.out; omega) g s0_0 t342 t343 (wrap64 (a1 - 1)) t348 t349 t352 t355 t356 w0 _ ?side1 ?side2 A83.out).mono ?_
         (case side1 => repeat (first | (with_reducible first | exact HI0.out | apply IsS81.alloc | apply IsS81.drewN | apply IsS81.drew | apply IsS81.set_1 | apply IsS81.set_2 | refine IsS81.far ?_ NB0_251.out _ | refine IsS81.far ?_ NB0_344.out _) | exact HI0.out))
         (case side2 => repeat (first | (with_reducible first | exact HB.out | apply below_alloc | apply pw_below_drewN | apply below_drew1 | refine below_set ?_ (IsS81.ge HI0.out) | refine below_set ?_ GE251.out | refine below_set ?_ GE344.out) | exact HB.out))
         rintro e w95 ⟨v350, v353, rfl, ho0, ho1, hi, hb, hk⟩
         refine ⟨_, rfl, ?_⟩
         have HO351 := Aside0.mk (Kd.R_lower (Kd.R_new' (Kd.R_newM (M := fun k_ => (w.heap.size ≤ k_)) (Kd.R_mono (ok' := fun k_ => True) ho0 (fun _ hk_ => trivial)) (keep_size (w := w) (g := g) (row := none) (G2_ HK.out GW251.out GW344.out)) (fun k_ h_ => h_)) (Kd.R_lt (R_ HO338.out))) (keep_size (w := w) (g := g) (row := none) (G2_ HK.out GW251.out GW344.out)))
         have HO354 := Aside0.mk (Kd.N_lower (Kd.N_mono (ok' := fun k_ => (w.heap.size ≤ k_) ∧ some k_ ≠ (v350 : Value).ownBlock ∧ some k_ ≠ (.slice Ao91 t336.length co91 : Value).ownBlock ∧ some k_ ≠ (.slice Ao92 t339.length co92 : Value).ownBlock ∧ k_ ≠ gb251 ∧ k_ ≠ gb344 ∧ k_ ≠ g) ho1 (fun k_ hk_ => ⟨(Nat.le_trans (keep_size (w := w) (g := g) (row := none) (G2_ HK.out GW251.out GW344.out)) hk_.1), hk_.2, (Kd.fresh' (Kd.R_lt (R_ HO338.out)) k_ hk_.1), (Kd.fresh' (Kd.N_lt (N_ HO341.out)) k_ hk_.1), (Kd.freshB (K_ BK251.out) k_ hk_.1), (Kd.freshB (K_ BK344.out) k_ hk_.1), (IsS81.fresh (i81a2_ HI0.out NB0_251.out NB0_344.out) k_ hk_.1)⟩)) (keep_size (w := w) (g := g) (row := none) (G2_ HK.out GW251.out GW344.out)))
         replace BK251 := Aside0.mk (KeepBut.blk hk (g' := gb251) (o := .cells #[.int .i64 0, .slice none 0 0, .slice none 0 0] 30 (0, 0)) (K_ BK251.out) NB251_0.out (by simp))
         replace HO338 := Aside0.mk (Kd.R_mono (Kd.R_told (Kd.R_oldK (IsS81.apart (show IsS81 w0 _ g s0_0 t342 t343 from i81a2_ HI0.out NB0_251.out NB0_344.out) (R_ HO338.out) (by decide)) hk) (Kd.R_base ho0)) (fun _ h_ => h_.1))
         replace HO341 := Aside0.mk (Kd.N_mono (Kd.N_told (Kd.N_told (Kd.N_oldK (Kd.N_mono (ok := fun k_ => (((w.heap.size ≤ k_)) ∧ (some k_ ≠ (.slice Ao91 t336.length co91 : Value).ownBlock ∧ (k_ ≠ gb251 ∧ (k_ ≠ g ∧ k_ ≠ gb344))))) (N_ HO341.out) (fun k_ hk_ => (⟨hk_, hk_.2.2.2.1⟩ : _ ∧ k_ ≠ g))) hk) (Kd.R_base ho0)) (Kd.N_base ho1)) (fun _ h_ => h_.1))
         replace BK344 := Aside0.mk (KeepBut.blk hk (g' := gb344) (o := .cells #[.int .i64 t335, .slice Ao91 t336.length co91, .slice Ao92 t339.length co92] 30 (0, 0)) (K_ BK344.out) NB344_0.out (by simp))
         replace HK := Aside0.mk (KeepBut.trans (G2_ HK.out GW251.out GW344.out) hk (.inl rfl))
         replace HB := Aside0.mk (hb)
         replace HI0 := Aside0.mk (hi)
         (try clear hb)
         (try clear hb2)
         (try clear hk)
         (try clear hi)
         (try clear ho0)
         (try clear ho1)
         refine hK.out _ _ ⟨(blk_cell BK344.out 0).trans rfl, (blk_cell BK344.out 1).trans rfl, (blk_cell BK344.out 2).trans rfl⟩ (fun hHeld => ?_)
         clear hK K
         refine nm_ (some 61) ?_
         refine two_ (i := 0) (j := 6) (Ni := some 56) (Nj := some 62) #[true, true, true, true, true, true, false, false, false] #[false, true, true, true, true, true, true, false, false] rfl rfl rfl rfl (two_of HT_.out (by kernel_rfl)) (by decide) (by decide) (fun K hK => ?_) (fun K hK => ?_)
         ·skip
          refine Kd.R_lit_step Kd.string _ 9 ?hg (N := 56) ?hd (xs := ([(⟨#[97]⟩ : ByteArray), (⟨#[98]⟩ : ByteArray)] : List ByteArray)) (inner := [.string (⟨#[97]⟩ : ByteArray), .string (⟨#[98]⟩ : ByteArray)]) (ok := fun _ => True) (okp := fun _ => True) ?hr ?hp (fun _ hk => hk) trivial (Below.refl _ _) (Nat.le_refl _) (by simp) ?_; (case hd => rfl); (case hg => rfl); (case hr => first | (go_simp; done) | (go_simp; rfl)); (case hp => exact (Reps.one (show Kd.M Kd.string _ _ _ (⟨#[97]⟩ : ByteArray) [.string (⟨#[97]⟩ : ByteArray)] from rfl) (Reps.one (show Kd.M Kd.string _ _ _ (⟨#[98]⟩ : ByteArray) [.string (⟨#[98]⟩ : ByteArray)] from rfl) (Reps.none _ _))))
          intro v346 w96 ho97 hb hg_ hnew_
          clear hg_ hnew_
          (first | rw [← Ny345.out] at ho97 | (simp only [Int.reduceToNat] at ho97; rw [← Ny345.out] at ho97))
          replace HO341 := Aside0.mk (Kd.N_elder' (N_ HO341.out) (Kd.R_base ho97) hb)
          replace HO354 := Aside0.mk (Kd.N_elder' (N_ HO354.out) (Kd.R_base ho97) hb)
          have HO347 := Aside0.mk (Kd.R_lower (Kd.R_new' (Kd.R_new' (Kd.R_newM (M := fun k_ => (w.heap.size ≤ k_)) ho97 (keep_size (w := w) (g := g) (row := none) (G2_ HK.out GW251.out GW344.out)) (fun k_ h_ => h_)) (Kd.R_lt (R_ HO338.out))) (Kd.R_lt (R_ HO351.out))) (keep_size (w := w) (g := g) (row := none) (G2_ HK.out GW251.out GW344.out)))
          replace HO338 := Aside0.mk (Kd.R_elder' (R_ HO338.out) (Kd.R_base ho97) hb)
          replace HO351 := Aside0.mk (Kd.R_elder' (R_ HO351.out) (Kd.R_base ho97) hb)
          replace BK251 := kb_ BK251 hb
          replace BK344 := kb_ BK344 hb
          replace HK := Aside0.mk (KeepBut.trans (G2_ HK.out GW251.out GW344.out) (KeepBut.of_below hb g none) (.inl rfl))
          replace HB := Aside0.mk (below_step (B3_ HB.out (IsS81.ge HI0.out) GE251.out GE344.out) hb)
          replace HI0 := Aside0.mk (IsS81.below (i81a2_ HI0.out NB0_251.out NB0_344.out) hb)
          clear hb ho97
          obtain ⟨Ao98, co98, eo98⟩ := Kd.R_slice HO351.out
          (first | subst eo98 | (injection eo98 with f1_ f2_ f3_; have f4_ := f1_.symm; have f5_ := f3_.symm; clear f1_ f2_ f3_; subst f4_; subst f5_))
          obtain ⟨Ao99, co99, eo99⟩ := Kd.N_slice HO354.out
          (first | subst eo99 | (injection eo99 with f1_ f2_ f3_; have f4_ := f1_.symm; have f5_ := f3_.symm; clear f1_ f2_ f3_; subst f4_; subst f5_))
          refine hK.out _ _ ⟨(blk_cell BK344.out 0).trans rfl, (blk_cell BK344.out 1).trans rfl, (blk_cell BK344.out 2).trans rfl⟩ (fun hHeld => ?_)
          clear hK K
          refine nm_ (some 56) ?_
          refine on_ HT_ (i := 6) (N := some 62) (mk_ 9 127) rfl rfl (fun K hK => ?_)
          refine Kd.N_lit_step k30 _ 30 ?hg (N' := 62) ?hd (xs := ([(⟨t335, t336, t339⟩ : S30), (⟨t348, t349, t352⟩ : S30)] : List (S30))) (inner := [.int .i64 t335, .slice Ao91 t336.length co91, .slice Ao92 t339.length co92, .int .i64 t348, .slice Ao98 t349.length co98, .slice Ao99 t352.length co99]) (ok := (fun k_ => (w.heap.size ≤ k_) ∧ some k_ ≠ (v346 : Value).ownBlock ∧ k_ ≠ gb251 ∧ k_ ≠ gb344 ∧ k_ ≠ g)) (okp := (fun k_ => (w.heap.size ≤ k_) ∧ some k_ ≠ (v346 : Value).ownBlock ∧ k_ ≠ gb251 ∧ k_ ≠ gb344 ∧ k_ ≠ g)) ?hr ?hp (fun _ hk => hk) ((show ∀ k_, w96.heap.size ≤ k_ → (fun k_ => (w.heap.size ≤ k_) ∧ some k_ ≠ (v346 : Value).ownBlock ∧ k_ ≠ gb251 ∧ k_ ≠ gb344 ∧ k_ ≠ g) k_ from fun k_ hk => ⟨(Nat.le_trans (keep_size (w := w) (g := g) (row := none) (G2_ HK.out GW251.out GW344.out)) hk), Kd.fresh' (Kd.R_lt (R_ HO347.out)) k_ hk, Kd.freshB (K_ BK251.out) k_ hk, Kd.freshB (K_ BK344.out) k_ hk, IsS81.fresh (i81a2_ HI0.out NB0_251.out NB0_344.out) k_ hk⟩) _ (Nat.le_refl _)) (Below.refl _ _) (Nat.le_refl _) (by simp) ?_; (case hd => rfl); (case hg => rfl); (case hr => first | (go_simp; done) | (go_simp; rfl)); (case hp => exact (Reps.c3 (show Kd.FK k30 _ _ (⟨t335, t336, t339⟩ : S30) [.int .i64 t335, .slice Ao91 t336.length co91, .slice Ao92 t339.length co92] from (k30_mkF _ _ (⟨t335, t336, t339⟩ : S30) (Kd.R_reads' (Kd.R_mono (ok' := (fun k_ => (w.heap.size ≤ k_) ∧ some k_ ≠ (v346 : Value).ownBlock ∧ k_ ≠ gb251 ∧ k_ ≠ gb344 ∧ k_ ≠ g)) (IsS81.apart HI0.out (Kd.R_types (Kd.R_types (HO338.out) BK251.out (by decide)) BK344.out (by decide)) (by decide)) (fun k_ hk => ⟨hk.1.1.1.1.1, ⟨hk.1.1.1.2, ⟨hk.1.1.2, ⟨hk.1.2, hk.2⟩⟩⟩⟩))).2.1 (Kd.R_F (Kd.R_mono (ok' := (fun k_ => (w.heap.size ≤ k_) ∧ some k_ ≠ (v346 : Value).ownBlock ∧ k_ ≠ gb251 ∧ k_ ≠ gb344 ∧ k_ ≠ g)) (IsS81.apart HI0.out (Kd.R_types (Kd.R_types (HO338.out) BK251.out (by decide)) BK344.out (by decide)) (by decide)) (fun k_ hk => ⟨hk.1.1.1.1.1, ⟨hk.1.1.1.2, ⟨hk.1.1.2, ⟨hk.1.2, hk.2⟩⟩⟩⟩))) (Kd.N_reads' (Kd.N_mono (ok' := (fun k_ => (w.heap.size ≤ k_) ∧ some k_ ≠ (v346 : Value).ownBlock ∧ k_ ≠ gb251 ∧ k_ ≠ gb344 ∧ k_ ≠ g)) (HO341.out) (fun k_ hk => ⟨hk.1.1.1.1, ⟨hk.2, ⟨hk.1.1.1.2.2.1, ⟨hk.1.1.1.2.2.2.2, hk.1.1.1.2.2.2.1⟩⟩⟩⟩))).2.1 (Kd.N_F (Kd.N_mono (ok' := (fun k_ => (w.heap.size ≤ k_) ∧ some k_ ≠ (v346 : Value).ownBlock ∧ k_ ≠ gb251 ∧ k_ ≠ gb344 ∧ k_ ≠ g)) (HO341.out) (fun k_ hk => ⟨hk.1.1.1.1, ⟨hk.2, ⟨hk.1.1.1.2.2.1, ⟨hk.1.1.1.2.2.2.2, hk.1.1.1.2.2.2.1⟩⟩⟩⟩))))) (Reps.c3 (show Kd.FK k30 _ _ (⟨t348, t349, t352⟩ : S30) [.int .i64 t348, .slice Ao98 t349.length co98, .slice Ao99 t352.length co99] from (k30_mkF _ _ (⟨t348, t349, t352⟩ : S30) (Kd.R_reads' (Kd.R_mono (ok' := (fun k_ => (w.heap.size ≤ k_) ∧ some k_ ≠ (v346 : Value).ownBlock ∧ k_ ≠ gb251 ∧ k_ ≠ gb344 ∧ k_ ≠ g)) (IsS81.apart HI0.out (Kd.R_types (Kd.R_types (HO351.out) BK251.out (by decide)) BK344.out (by decide)) (by decide)) (fun k_ hk => ⟨hk.1.1.1.1.1.1, ⟨hk.1.1.1.2, ⟨hk.1.1.2, ⟨hk.1.2, hk.2⟩⟩⟩⟩))).2.1 (Kd.R_F (Kd.R_mono (ok' := (fun k_ => (w.heap.size ≤ k_) ∧ some k_ ≠ (v346 : Value).ownBlock ∧ k_ ≠ gb251 ∧ k_ ≠ gb344 ∧ k_ ≠ g)) (IsS81.apart HI0.out (Kd.R_types (Kd.R_types (HO351.out) BK251.out (by decide)) BK344.out (by decide)) (by decide)) (fun k_ hk => ⟨hk.1.1.1.1.1.1, ⟨hk.1.1.1.2, ⟨hk.1.1.2, ⟨hk.1.2, hk.2⟩⟩⟩⟩))) (Kd.N_reads' (Kd.N_mono (ok' := (fun k_ => (w.heap.size ≤ k_) ∧ some k_ ≠ (v346 : Value).ownBlock ∧ k_ ≠ gb251 ∧ k_ ≠ gb344 ∧ k_ ≠ g)) (HO354.out) (fun k_ hk => ⟨hk.1.1, ⟨hk.2, ⟨hk.1.2.2.2.2.1, ⟨hk.1.2.2.2.2.2.1, hk.1.2.2.2.2.2.2⟩⟩⟩⟩))).2.1 (Kd.N_F (Kd.N_mono (ok' := (fun k_ => (w.heap.size ≤ k_) ∧ some k_ ≠ (v346 : Value).ownBlock ∧ k_ ≠ gb251 ∧ k_ ≠ gb344 ∧ k_ ≠ g)) (HO354.out) (fun k_ hk => ⟨hk.1.1, ⟨hk.2, ⟨hk.1.2.2.2.2.1, ⟨hk.1.2.2.2.2.2.1, hk.1.2.2.2.2.2.2⟩⟩⟩⟩))))) (Reps.none _ _))))
          intro v358 w100 ho101 hb hg_ hnew_
          clear hg_ hnew_
          (first | rw [← Ny357.out] at ho101 | (simp only [Int.reduceToNat] at ho101; rw [← Ny357.out] at ho101))
          replace HO347 := rb_ HO347 hb
          have HO359 := Aside0.mk (Kd.N_lower ho101 (keep_size (w := w) (g := g) (row := none) (G2_ HK.out GW251.out GW344.out)))
          replace BK251 := kb_ BK251 hb
          replace BK344 := kb_ BK344 hb
          replace HK := Aside0.mk (KeepBut.trans (G2_ HK.out GW251.out GW344.out) (KeepBut.of_below hb g none) (.inl rfl))
          replace HB := Aside0.mk (below_step (B3_ HB.out (IsS81.ge HI0.out) GE251.out GE344.out) hb)
          replace HI0 := Aside0.mk (IsS81.below (i81a2_ HI0.out NB0_251.out NB0_344.out) hb)
          clear HO338 HO341 HO351 HO354
          clear hb ho101
          refine hK.out _ _ ⟨(blk_cell BK344.out 0).trans rfl, (blk_cell BK344.out 1).trans rfl, (blk_cell BK344.out 2).trans rfl⟩ (fun hHeld => ?_)
          clear hK K
          refine nm_ (some 62) ?_
          exact norm_ (by simp only [putAll, Act.put, List.setIfInBounds_toArray, List.set_cons_zero, List.set_cons_succ]) (hCont (v346, .slice Ao98 t349.length co98, .slice Ao99 t352.length co99, v358) _ ⟨hHeld, (by (with_reducible repeat (first | apply Kd.R_alloc | apply Kd.R_drewN | apply Kd.R_drew)); exact Kd.R_mono HO347.out (fun _ hk => hk.1.1.1)), (by (with_reducible repeat (first | apply Kd.N_alloc | apply Kd.N_drewN | apply Kd.N_drew)); exact Kd.N_mono HO359.out (fun _ hk => ⟨hk.1, ⟨hk.2.1, ⟨hk.2.2.2.2, ⟨hk.2.2.1, hk.2.2.2.1⟩⟩⟩⟩)), (K_ BK251.out), (K_ BK344.out), (i81a2_ HI0.out NB0_251.out NB0_344.out), (G2_ HK.out GW251.out GW344.out), (B3_ HB.out (IsS81.ge HI0.out) GE251.out GE344.out)⟩)
         ·skip
          obtain ⟨Ao96, co96, eo96⟩ := Kd.R_slice HO351.out
          (first | subst eo96 | (injection eo96 with f1_ f2_ f3_; have f4_ := f1_.symm; have f5_ := f3_.symm; clear f1_ f2_ f3_; subst f4_; subst f5_))
          obtain ⟨Ao97, co97, eo97⟩ := Kd.N_slice HO354.out
          (first | subst eo97 | (injection eo97 with f1_ f2_ f3_; have f4_ := f1_.symm; have f5_ := f3_.symm; clear f1_ f2_ f3_; subst f4_; subst f5_))
          refine Kd.N_lit_step k30 _ 30 ?hg (N' := 62) ?hd (xs := ([(⟨t335, t336, t339⟩ : S30), (⟨t348, t349, t352⟩ : S30)] : List (S30))) (inner := [.int .i64 t335, .slice Ao91 t336.length co91, .slice Ao92 t339.length co92, .int .i64 t348, .slice Ao96 t349.length co96, .slice Ao97 t352.length co97]) (ok := (fun k_ => (w.heap.size ≤ k_) ∧ k_ ≠ gb251 ∧ k_ ≠ gb344 ∧ k_ ≠ g)) (okp := (fun k_ => (w.heap.size ≤ k_) ∧ k_ ≠ gb251 ∧ k_ ≠ gb344 ∧ k_ ≠ g)) ?hr ?hp (fun _ hk => hk) ((show ∀ k_, w95.heap.size ≤ k_ → (fun k_ => (w.heap.size ≤ k_) ∧ k_ ≠ gb251 ∧ k_ ≠ gb344 ∧ k_ ≠ g) k_ from fun k_ hk => ⟨(Nat.le_trans (keep_size (w := w) (g := g) (row := none) (G2_ HK.out GW251.out GW344.out)) hk), Kd.freshB (K_ BK251.out) k_ hk, Kd.freshB (K_ BK344.out) k_ hk, IsS81.fresh (i81a2_ HI0.out NB0_251.out NB0_344.out) k_ hk⟩) _ (Nat.le_refl _)) (Below.refl _ _) (Nat.le_refl _) (by simp) ?_; (case hd => rfl); (case hg => rfl); (case hr => first | (go_simp; done) | (go_simp; rfl)); (case hp => exact (Reps.c3 (show Kd.FK k30 _ _ (⟨t335, t336, t339⟩ : S30) [.int .i64 t335, .slice Ao91 t336.length co91, .slice Ao92 t339.length co92] from (k30_mkF _ _ (⟨t335, t336, t339⟩ : S30) (Kd.R_reads' (Kd.R_mono (ok' := (fun k_ => (w.heap.size ≤ k_) ∧ k_ ≠ gb251 ∧ k_ ≠ gb344 ∧ k_ ≠ g)) (IsS81.apart HI0.out (Kd.R_types (Kd.R_types (HO338.out) BK251.out (by decide)) BK344.out (by decide)) (by decide)) (fun k_ hk => ⟨hk.1.1.1.1, ⟨hk.1.1.2, ⟨hk.1.2, hk.2⟩⟩⟩))).2.1 (Kd.R_F (Kd.R_mono (ok' := (fun k_ => (w.heap.size ≤ k_) ∧ k_ ≠ gb251 ∧ k_ ≠ gb344 ∧ k_ ≠ g)) (IsS81.apart HI0.out (Kd.R_types (Kd.R_types (HO338.out) BK251.out (by decide)) BK344.out (by decide)) (by decide)) (fun k_ hk => ⟨hk.1.1.1.1, ⟨hk.1.1.2, ⟨hk.1.2, hk.2⟩⟩⟩))) (Kd.N_reads' (Kd.N_mono (ok' := (fun k_ => (w.heap.size ≤ k_) ∧ k_ ≠ gb251 ∧ k_ ≠ gb344 ∧ k_ ≠ g)) (HO341.out) (fun k_ hk => ⟨hk.1.1.1, ⟨hk.1.1.2.2.1, ⟨hk.1.1.2.2.2.2, hk.1.1.2.2.2.1⟩⟩⟩))).2.1 (Kd.N_F (Kd.N_mono (ok' := (fun k_ => (w.heap.size ≤ k_) ∧ k_ ≠ gb251 ∧ k_ ≠ gb344 ∧ k_ ≠ g)) (HO341.out) (fun k_ hk => ⟨hk.1.1.1, ⟨hk.1.1.2.2.1, ⟨hk.1.1.2.2.2.2, hk.1.1.2.2.2.1⟩⟩⟩))))) (Reps.c3 (show Kd.FK k30 _ _ (⟨t348, t349, t352⟩ : S30) [.int .i64 t348, .slice Ao96 t349.length co96, .slice Ao97 t352.length co97] from (k30_mkF _ _ (⟨t348, t349, t352⟩ : S30) (Kd.R_reads' (Kd.R_mono (ok' := (fun k_ => (w.heap.size ≤ k_) ∧ k_ ≠ gb251 ∧ k_ ≠ gb344 ∧ k_ ≠ g)) (IsS81.apart HI0.out (Kd.R_types (Kd.R_types (HO351.out) BK251.out (by decide)) BK344.out (by decide)) (by decide)) (fun k_ hk => ⟨hk.1.1.1.1.1, ⟨hk.1.1.2, ⟨hk.1.2, hk.2⟩⟩⟩))).2.1 (Kd.R_F (Kd.R_mono (ok' := (fun k_ => (w.heap.size ≤ k_) ∧ k_ ≠ gb251 ∧ k_ ≠ gb344 ∧ k_ ≠ g)) (IsS81.apart HI0.out (Kd.R_types (Kd.R_types (HO351.out) BK251.out (by decide)) BK344.out (by decide)) (by decide)) (fun k_ hk => ⟨hk.1.1.1.1.1, ⟨hk.1.1.2, ⟨hk.1.2, hk.2⟩⟩⟩))) (Kd.N_reads' (Kd.N_mono (ok' := (fun k_ => (w.heap.size ≤ k_) ∧ k_ ≠ gb251 ∧ k_ ≠ gb344 ∧ k_ ≠ g)) (HO354.out) (fun k_ hk => ⟨hk.1, ⟨hk.2.2.2.2.1, ⟨hk.2.2.2.2.2.1, hk.2.2.2.2.2.2⟩⟩⟩))).2.1 (Kd.N_F (Kd.N_mono (ok' := (fun k_ => (w.heap.size ≤ k_) ∧ k_ ≠ gb251 ∧ k_ ≠ gb344 ∧ k_ ≠ g)) (HO354.out) (fun k_ hk => ⟨hk.1, ⟨hk.2.2.2.2.1, ⟨hk.2.2.2.2.2.1, hk.2.2.2.2.2.2⟩⟩⟩))))) (Reps.none _ _))))
          intro v358 w98 ho99 hb hg_ hnew_
          clear hg_ hnew_
          (first | rw [← Ny357.out] at ho99 | (simp only [Int.reduceToNat] at ho99; rw [← Ny357.out] at ho99))
          have HO359 := Aside0.mk (Kd.N_lower ho99 (keep_size (w := w) (g := g) (row := none) (G2_ HK.out GW251.out GW344.out)))
          replace BK251 := kb_ BK251 hb
          replace BK344 := kb_ BK344 hb
          replace HK := Aside0.mk (KeepBut.trans (G2_ HK.out GW251.out GW344.out) (KeepBut.of_below hb g none) (.inl rfl))
          replace HB := Aside0.mk (below_step (B3_ HB.out (IsS81.ge HI0.out) GE251.out GE344.out) hb)
          replace HI0 := Aside0.mk (IsS81.below (i81a2_ HI0.out NB0_251.out NB0_344.out) hb)
          clear HO338 HO341 HO351 HO354
          clear hb ho99
          refine hK.out _ _ ⟨(blk_cell BK344.out 0).trans rfl, (blk_cell BK344.out 1).trans rfl, (blk_cell BK344.out 2).trans rfl⟩ (fun hHeld => ?_)
          clear hK K
          refine nm_ (some 62) ?_
          refine on_ HT_ (i := 0) (N := some 56) (mk_ 9 127) rfl rfl (fun K hK => ?_)
          refine Kd.R_lit_step Kd.string _ 9 ?hg (N := 56) ?hd (xs := ([(⟨#[97]⟩ : ByteArray), (⟨#[98]⟩ : ByteArray)] : List ByteArray)) (inner := [.string (⟨#[97]⟩ : ByteArray), .string (⟨#[98]⟩ : ByteArray)]) (ok := fun _ => True) (okp := fun _ => True) ?hr ?hp (fun _ hk => hk) trivial (Below.refl _ _) (Nat.le_refl _) (by simp) ?_; (case hd => rfl); (case hg => rfl); (case hr => first | (go_simp; done) | (go_simp; rfl)); (case hp => exact (Reps.one (show Kd.M Kd.string _ _ _ (⟨#[97]⟩ : ByteArray) [.string (⟨#[97]⟩ : ByteArray)] from rfl) (Reps.one (show Kd.M Kd.string _ _ _ (⟨#[98]⟩ : ByteArray) [.string (⟨#[98]⟩ : ByteArray)] from rfl) (Reps.none _ _))))
          intro v346 w100 ho101 hb hg_ hnew_
          clear hg_ hnew_
          (first | rw [← Ny345.out] at ho101 | (simp only [Int.reduceToNat] at ho101; rw [← Ny345.out] at ho101))
          replace HO359 := Aside0.mk (Kd.N_elder' (N_ HO359.out) (Kd.R_base ho101) hb)
          have HO347 := Aside0.mk (Kd.R_lower (Kd.R_newM (M := fun k_ => (w.heap.size ≤ k_)) ho101 (keep_size (w := w) (g := g) (row := none) (G2_ HK.out GW251.out GW344.out)) (fun k_ h_ => h_)) (keep_size (w := w) (g := g) (row := none) (G2_ HK.out GW251.out GW344.out)))
          replace BK251 := kb_ BK251 hb
          replace BK344 := kb_ BK344 hb
          replace HK := Aside0.mk (KeepBut.trans (G2_ HK.out GW251.out GW344.out) (KeepBut.of_below hb g none) (.inl rfl))
          replace HB := Aside0.mk (below_step (B3_ HB.out (IsS81.ge HI0.out) GE251.out GE344.out) hb)
          replace HI0 := Aside0.mk (IsS81.below (i81a2_ HI0.out NB0_251.out NB0_344.out) hb)
          clear hb ho101
          refine hK.out _ _ ⟨(blk_cell BK344.out 0).trans rfl, (blk_cell BK344.out 1).trans rfl, (blk_cell BK344.out 2).trans rfl⟩ (fun hHeld => ?_)
          clear hK K
          refine nm_ (some 56) ?_
          exact norm_ (by simp only [putAll, Act.put, List.setIfInBounds_toArray, List.set_cons_zero, List.set_cons_succ]) (hCont (v346, .slice Ao96 t349.length co96, .slice Ao97 t352.length co97, v358) _ ⟨hHeld, (by (with_reducible repeat (first | apply Kd.R_alloc | apply Kd.R_drewN | apply Kd.R_drew)); exact Kd.R_mono HO347.out (fun _ hk => hk.1)), (by (with_reducible repeat (first | apply Kd.N_alloc | apply Kd.N_drewN | apply Kd.N_drew)); exact Kd.N_mono HO359.out (fun _ hk => ⟨hk.1.1, ⟨hk.2, ⟨hk.1.2.2.2, ⟨hk.1.2.1, hk.1.2.2.1⟩⟩⟩⟩)), (K_ BK251.out), (K_ BK344.out), (i81a2_ HI0.out NB0_251.out NB0_344.out), (G2_ HK.out GW251.out GW344.out), (B3_ HB.out (IsS81.ge HI0.out) GE251.out GE344.out)⟩)
       rintro ⟨v346, v350, v353, v358⟩ w102 ⟨hS_, h0_, h1_, h2_, h3_, h4_, h5_, h6_⟩
       have n0_ : Aside0 (Kd.R Kd.string 9 w102 w.heap.size (fun k_ => (w.heap.size ≤ k_)) v346 y345) := ⟨h0_⟩
       have n1_ : Aside0 (Kd.N k30 30 w102 w.heap.size (fun k_ => (w.heap.size ≤ k_) ∧ some k_ ≠ (v346 : Value).ownBlock ∧ k_ ≠ g ∧ k_ ≠ gb251 ∧ k_ ≠ gb344) v358 y357) := ⟨h1_⟩
       have n2_ : Aside0 (w102.heap[gb251]? = some (.cells #[.int .i64 0, .slice none 0 0, .slice none 0 0] 30 (0, 0))) := ⟨h2_⟩
       have n3_ : Aside0 (w102.heap[gb344]? = some (.cells #[.int .i64 t335, .slice Ao91 t336.length co91, .slice Ao92 t339.length co92] 30 (0, 0))) := ⟨h3_⟩
       have n4_ : Aside0 (IsS81 w0 w102 g s0_0 t355 t356) := ⟨h4_⟩
       have n5_ : Aside0 (KeepBut w w102 g none) := ⟨h5_⟩
       have n6_ : Aside0 (Below w0.heap.size w0 w102) := ⟨h6_⟩
       clear HO338
       clear HO341
       clear BK251
       clear BK344
       clear HI0
       clear HK
       clear HB
       clear h0_ h1_ h2_ h3_ h4_ h5_ h6_
       have HO347 := n0_
       have HO359 := n1_
       have BK251 := n2_
       have BK344 := n3_
       have HI0 := n4_
       have HK := n5_
       have HB := n6_
       clear n0_ n1_ n2_ n3_ n4_ n5_ n6_
       have hHeld : w102.cell? ⟨gb344, 0, none⟩ = some (.int .i64 t335) ∧ w102.cell? ⟨gb344, 1, none⟩ = some (.slice Ao91 t336.length co91) ∧ w102.cell? ⟨gb344, 2, none⟩ = some (.slice Ao92 t339.length co92) := hS_
       obtain ⟨Ao103, co103, eo103⟩ := Kd.R_slice HO347.out
       (first | subst eo103 | (injection eo103 with f1_ f2_ f3_; have f4_ := f1_.symm; have f5_ := f3_.symm; clear f1_ f2_ f3_; subst f4_; subst f5_))
       obtain ⟨Ao104, co104, eo104⟩ := Kd.N_slice HO359.out
       (first | subst eo104 | (injection eo104 with f1_ f2_ f3_; have f4_ := f1_.symm; have f5_ := f3_.symm; clear f1_ f2_ f3_; subst f4_; subst f5_))
       refine norm_ (a' := ?_) ?_ ?_
       rotate_left
       ·simp only [putAll, Act.put, List.setIfInBounds_toArray, List.set_cons_zero, List.set_cons_succ]
        rfl
       refine on_ HT_ (i := 7) (N := some 63) (mk_ 9 255) rfl rfl (fun K hK => ?_)
       refine goes_ Try.func91 (by kernel_rfl) rfl #[.int .i64 3, .slice Ao103 y345.length co103, .slice Ao104 y357.length co104] (by rfl) rfl rfl ma_ ?_
       with_reducible refine (spec_l3Labeled.calls kj2 3 _ _ y345 _ _ y357 t360 t361 t364 _ ?side1 ?side2 ?side3 ?side4 A84.out).mono ?_
       (case side1 => exact crb_ HO347)
       (case side2 => exact lrb_ HO347)
       (case side3 => exact cnb_ HO359)
       (case side4 => exact lnb_ HO359)
       rintro e w105 ⟨v362, v365, rfl, ho0, ho1, hb⟩
       refine ⟨_, rfl, ?_⟩
       have HO363 := Aside0.mk (Kd.R_lower (Kd.R_new' (Kd.R_newM (M := fun k_ => (w.heap.size ≤ k_)) ho0 (keep_size (w := w) (g := g) (row := none) (G2_ HK.out GW251.out GW344.out)) (fun k_ h_ => h_)) (Kd.R_lt (R_ HO347.out))) (keep_size (w := w) (g := g) (row := none) (G2_ HK.out GW251.out GW344.out)))
       have HO366 := Aside0.mk (Kd.N_lower (Kd.N_mono (ok' := fun k_ => (w.heap.size ≤ k_) ∧ some k_ ≠ (v362 : Value).ownBlock ∧ some k_ ≠ (.slice Ao103 y345.length co103 : Value).ownBlock ∧ some k_ ≠ (.slice Ao104 y357.length co104 : Value).ownBlock ∧ k_ ≠ gb251 ∧ k_ ≠ gb344 ∧ k_ ≠ g) (Kd.R_N (Kd.R_bound ho1)) (fun k_ hk_ => ⟨(Nat.le_trans (keep_size (w := w) (g := g) (row := none) (G2_ HK.out GW251.out GW344.out)) hk_.2.1), hk_.1, (Kd.fresh' (Kd.R_lt (R_ HO347.out)) k_ hk_.2.1), (Kd.fresh' (Kd.N_lt (N_ HO359.out)) k_ hk_.2.1), (Kd.freshB (K_ BK251.out) k_ hk_.2.1), (Kd.freshB (K_ BK344.out) k_ hk_.2.1), (IsS81.fresh (i81a2_ HI0.out NB0_251.out NB0_344.out) k_ hk_.2.1)⟩)) (keep_size (w := w) (g := g) (row := none) (G2_ HK.out GW251.out GW344.out)))
       replace HO347 := Aside0.mk (Kd.R_elder' (R_ HO347.out) (Kd.R_base ho0) hb)
       replace HO359 := Aside0.mk (Kd.N_mono (Kd.N_told (Kd.N_told (Kd.N_old (N_ HO359.out) hb) (Kd.R_base ho0)) (Kd.R_base ho1)) (fun _ h_ => h_.1))
       replace BK251 := kb_ BK251 hb
       replace BK344 := kb_ BK344 hb
       replace HK := Aside0.mk (KeepBut.trans (G2_ HK.out GW251.out GW344.out) (KeepBut.of_below hb g none) (.inl rfl))
       replace HB := Aside0.mk (below_step (B3_ HB.out (IsS81.ge HI0.out) GE251.out GE344.out) hb)
       replace HI0 := Aside0.mk (IsS81.below (i81a2_ HI0.out NB0_251.out NB0_344.out) hb)
       (try clear hb)
       (try clear hb2)
       (try clear hk)
       (try clear hi)
       (try clear ho0)
       (try clear ho1)
       obtain ⟨Ao107, co107, eo107⟩ := Kd.R_slice HO363.out
       (first | subst eo107 | (injection eo107 with f1_ f2_ f3_; have f4_ := f1_.symm; have f5_ := f3_.symm; clear f1_ f2_ f3_; subst f4_; subst f5_))
       obtain ⟨Ao109, co109, eo109⟩ := Kd.N_slice HO366.out
       (first | subst eo109 | (injection eo109 with f1_ f2_ f3_; have f4_ := f1_.symm; have f5_ := f3_.symm; clear f1_ f2_ f3_; subst f4_; subst f5_))
       refine hK.out _ _ ⟨(blk_cell BK344.out 0).trans rfl, (blk_cell BK344.out 1).trans rfl, (blk_cell BK344.out 2).trans rfl⟩ (fun hHeld => ?_)
       clear hK K
       refine nm_ (some 63) ?_
       refine on_ HT_ (i := 8) (N := none) (mk_ 9 511) rfl rfl (fun K hK => ?_)
       have hs106 : w105.cell? ⟨gb251, 0, none⟩ = some (.int .i64 0) := (blk_cell BK251.out 0).trans rfl
       have hfs106 := blk_frozen BK251.out 0
       have hns106_1 := NB344_251.out
       have hms106_1 := NB251_344.out
       have hs108 : w105.cell? ⟨gb251, 1, none⟩ = some (.slice none 0 0) := (blk_cell BK251.out 1).trans rfl
       have hfs108 := blk_frozen BK251.out 1
       have hns108_1 := NB344_251.out
       have hms108_1 := NB251_344.out
       have hs110 : w105.cell? ⟨gb251, 2, none⟩ = some (.slice none 0 0) := (blk_cell BK251.out 2).trans rfl
       have hfs110 := blk_frozen BK251.out 2
       have hns110_1 := NB344_251.out
       have hms110_1 := NB251_344.out
       refine skip_ (w1 := ?_) (by rfl) rfl ?_ ?_
       rotate_left
       ·go_simp
        rfl
       refine hK.out _ _ ⟨((cell_far (p := ⟨gb251, _, none⟩) NB344_251.out _).trans (((cell_far (p := ⟨gb251, _, none⟩) NB344_251.out _).trans (((cell_far (p := ⟨gb251, _, none⟩) NB344_251.out _).trans (hHeld.1)))))), ((cell_far (p := ⟨gb251, _, none⟩) NB344_251.out _).trans (((cell_far (p := ⟨gb251, _, none⟩) NB344_251.out _).trans (((cell_far (p := ⟨gb251, _, none⟩) NB344_251.out _).trans (hHeld.2.1)))))), ((cell_far (p := ⟨gb251, _, none⟩) NB344_251.out _).trans (((cell_far (p := ⟨gb251, _, none⟩) NB344_251.out _).trans (((cell_far (p := ⟨gb251, _, none⟩) NB344_251.out _).trans (hHeld.2.2))))))⟩ (fun hHeld => ?_)
       clear hK K
       refine done_ (done_of HT_.out (by kernel_rfl)) ?_
       try go_wp2
       refine bodyPost_ret (results_cell_row rfl _ _ gb251 30 #[.int .i64 t360, .slice Ao107 t361.length co107, .slice Ao109 t364.length co109] (0, 0) _ rfl (by (with_reducible repeat (first | refine blk_drewN ?_ _ | refine blk_drew ?_ | refine blk_alloc ?_ _)); refine blk_put (cs := #[.int .i64 t360, .slice Ao107 t361.length co107, .slice none 0 0]) ?_ 2 _ rfl; (with_reducible repeat (first | refine blk_drewN ?_ _ | refine blk_drew ?_ | refine blk_alloc ?_ _)); refine blk_put (cs := #[.int .i64 t360, .slice none 0 0, .slice none 0 0]) ?_ 1 _ rfl; (with_reducible repeat (first | refine blk_drewN ?_ _ | refine blk_drew ?_ | refine blk_alloc ?_ _)); refine blk_put (cs := #[.int .i64 0, .slice none 0 0, .slice none 0 0]) ?_ 0 _ rfl; (with_reducible repeat (first | refine blk_drewN ?_ _ | refine blk_drew ?_ | refine blk_alloc ?_ _)); exact BK251.out) Try.underlying30 rfl (by kernel_rfl)) rfl ?_
       exact ⟨_, _, er_, by (with_reducible repeat (first | apply Kd.R_alloc | apply Kd.R_drewN | apply Kd.R_drew)); exact Kd.R_mono (Kd.R_far (p := ⟨gb251, 2, none⟩) (Kd.R_far (p := ⟨gb251, 1, none⟩) (Kd.R_far (p := ⟨gb251, 0, none⟩) (Kd.R_types HO363.out BK251.out (by decide)) (fun _ hk => hk.2) (.int .i64 t360)) (fun _ hk => hk.2) (.slice Ao107 t361.length co107)) (fun _ hk => hk.2) (.slice Ao109 t364.length co109)) (fun _ hk => hk.1.1.1), by (with_reducible repeat (first | apply Kd.N_alloc | apply Kd.N_drewN | apply Kd.N_drew)); exact Kd.N_mono (Kd.N_far (p := ⟨gb251, 2, none⟩) (Kd.N_far (p := ⟨gb251, 1, none⟩) (Kd.N_far (p := ⟨gb251, 0, none⟩) (Kd.N_mono HO366.out (fun k_ hk => (⟨hk, hk.2.2.2.2.1⟩ : _ ∧ k_ ≠ gb251))) (fun _ hk => hk.2) (.int .i64 t360)) (fun _ hk => hk.2) (.slice Ao107 t361.length co107)) (fun _ hk => hk.2) (.slice Ao109 t364.length co109)) (fun _ hk => ⟨hk.1.1, hk.1.2.1⟩), i81a2_ HI0.out NB0_251.out NB0_344.out, B3_ HB.out (IsS81.ge HI0.out) GE251.out GE344.out, G2_ HK.out GW251.out GW344.out⟩

end Go.Proofs.Ytingaflikkeefaa.XB
