-- Written by myprint.py, a program of this session, which runs the kit's printer with changes of its own. Lean checks it.
import Derived.Test.YtibcndpadbipmaaXFx0
import Derived.Test.YtibcndpadbipmaaXFx8
import Derived.Test.YtibcndpadbipmaaXFx9
import Derived.Test.YtibcndpadbipmaaSq
namespace Go.Proofs.Ytibcndpadbipmaa.XF
open Go.RowKit Go.Proofs.YtibcndpadbipmaaW.PrintWords Go.Proofs.YtibcndpadbipmaaW.PrintLast Go.Proofs.YtibcndpadbipmaaW.PrintMore Go.Proofs.Ytibcndpadbipmaa.Sq
attribute [local go_sem] max2_int min2_int max_two min_two max_three min_three max_four min_four   -- for this text's walks alone
set_option linter.unusedVariables false
set_option linter.unusedSimpArgs false

/-! ### spec_l7Copy: function 55 -/
mutual
def spec_l7Copy.l0 : Nat → Int → Int → ByteArray → Int → List (S29) → Int → ByteArray → Int → List (S29) → Option (Int × ByteArray × Int × (List (S29)))
 | 0, _, _, _, _, _, _, _, _, _ => none
 | k + 1, x4, x294000, x294001, x294002, x294003, x296000, x296001, x296002, x296003 => if x4 < (x294003.length : Int) then (if 0 ≤ x4 then ((spec_l7Copy.f k ((rd_T29 x294003 x4).f0) ((rd_T29 x294003 x4).f1) ((rd_T29 x294003 x4).f2) ((rd_T29 x294003 x4).f3)).bind fun bt297 => (if x296003.length < 2513169434916 then (spec_l7Copy.l0 k (wrap64 (x4 + 1)) x294000 x294001 x294002 x294003 x296000 x296001 x296002 (x296003 ++ [(⟨bt297.1, bt297.2.1, bt297.2.2.1, bt297.2.2.2⟩ : S29)])) else (none))) else (none)) else (some (x296000, x296001, x296002, x296003))
def spec_l7Copy.f : Nat → Int → ByteArray → Int → List (S29) → Option (Int × ByteArray × Int × (List (S29)))
 | 0, _, _, _, _ => none
 | k + 1, a0_0, a0_1, a0_2, l0_3 => spec_l7Copy.l0 k 0 a0_0 a0_1 a0_2 l0_3 a0_0 a0_1 a0_2 ([] : List (S29))
end
theorem spec_l7Copy.mono_l : ∀ k, (∀ y0 y1 y2 y3, LeO (spec_l7Copy.f k y0 y1 y2 y3) (spec_l7Copy.f (k + 1) y0 y1 y2 y3)) ∧ (∀ y0 y1 y2 y3 y4 y5 y6 y7 y8, LeO (spec_l7Copy.l0 k y0 y1 y2 y3 y4 y5 y6 y7 y8) (spec_l7Copy.l0 (k + 1) y0 y1 y2 y3 y4 y5 y6 y7 y8))
 | 0 => ⟨fun _ _ _ _ r h => by simp [spec_l7Copy.f] at h, fun _ _ _ _ _ _ _ _ _ r h => by simp [spec_l7Copy.l0] at h⟩
 | k + 1 => by
  obtain ⟨ih0, ih1⟩ := spec_l7Copy.mono_l k
  refine ⟨?_, ?_⟩
  ·intro y0 y1 y2 y3
   unfold spec_l7Copy.f
   repeat' first
   | (with_reducible exact ih0 _ _ _ _)
   | (with_reducible exact ih1 _ _ _ _ _ _ _ _ _)
   | (with_reducible exact LeO.refl _)
   | (with_reducible exact LeO.none _)
   | (with_reducible refine LeO.ite ?_ ?_)
   | (with_reducible refine LeO.bind ?_ (fun _ => ?_))
   | exact ih0 _ _ _ _
   | exact ih1 _ _ _ _ _ _ _ _ _
   | exact LeO.none _
   | refine LeO.ite ?_ ?_
   | refine LeO.bind ?_ (fun _ => ?_)
  ·intro y0 y1 y2 y3 y4 y5 y6 y7 y8
   unfold spec_l7Copy.l0
   repeat' first
   | (with_reducible exact ih0 _ _ _ _)
   | (with_reducible exact ih1 _ _ _ _ _ _ _ _ _)
   | (with_reducible exact LeO.refl _)
   | (with_reducible exact LeO.none _)
   | (with_reducible refine LeO.ite ?_ ?_)
   | (with_reducible refine LeO.bind ?_ (fun _ => ?_))
   | exact ih0 _ _ _ _
   | exact ih1 _ _ _ _ _ _ _ _ _
   | exact LeO.none _
   | refine LeO.ite ?_ ?_
   | refine LeO.bind ?_ (fun _ => ?_)
theorem spec_l7Copy.mono : ∀ a0 a1 a2 a3 k, LeO (spec_l7Copy.f k a0 a1 a2 a3) (spec_l7Copy.f (k + 1) a0 a1 a2 a3) := by
 intro a0 a1 a2 a3 k
 obtain ⟨ih0, ih1⟩ := spec_l7Copy.mono_l k
 exact ih0 a0 a1 a2 a3
def spec_l7Copy.T5 : Bool × List (List Nat × List Nat) := (true, [([], []), ([0], [0]), ([], []), ([2], [2]), ([], []), ([3, 4], [3, 4]), ([5], [5]), ([6], [6]), ([7], [7]), ([1, 8, 7], [1, 8]), ([0, 1, 2, 3, 4, 5, 6, 7, 8, 9], []), ([10, 9, 9, 0, 1, 2, 3, 4, 5, 6, 7, 8, 9], [9, 10])])
def spec_l7Copy.B5 : List Nat := [0, 1, 0, 4, 0, 28, 60, 124, 252, 511, 1023, 2047]
theorem spec_l7Copy.tab5 : rtab .any (opsOf Try.f55 5) = spec_l7Copy.T5 := by kernel_rfl
theorem spec_l7Copy.bits5 : waitsOk spec_l7Copy.T5.2 spec_l7Copy.B5 = true := by kernel_rfl
set_option maxHeartbeats 8000000 in
set_option maxRecDepth 100000 in
theorem spec_l7Copy.calls (k : Nat) : ∀ (a0_0 : Int) (a0_1 : ByteArray) (a0_2 : Int) (A0_3 : Option Addr) (c0_3 : Nat) (l0_3 : List (S29)) (r1 : Int) (r2 : ByteArray) (r3 : Int) (r4 : List (S29)) (w : World) (hr0_3 : Kd.C k29 w A0_3 l0_3.length l0_3) (hc0_3 : l0_3.length ≤ c0_3) (h : spec_l7Copy.f k a0_0 a0_1 a0_2 l0_3 = some (r1, r2, r3, r4)),
  Calls Try.prog 55 #[.agg #[.int .i64 a0_0, .string a0_1, .int .i64 a0_2, .slice A0_3 l0_3.length c0_3]] w fun e w' => ∃ v3_ : Value, e = .returned (.agg #[.int .i64 r1, .string r2, .int .i64 r3, v3_]) ∧ Kd.R k29 29 w' w.heap.size (fun _ => True) v3_ r4 ∧ Below w.heap.size w w' := by
 induction k using Nat.strongRecOn with
 | _ k ih =>
 intro a0_0 a0_1 a0_2 A0_3 c0_3 l0_3 r1 r2 r3 r4 w hr0_3 hc0_3 h
 cases k with
 | zero => exact absurd h (by simp [spec_l7Copy.f])
 | succ k =>
 simp only [spec_l7Copy.f] at h
 have hu29 := Try.underlying29
 have HR0_3 := Aside0.mk hr0_3
 have HC0_3 := Aside0.mk hc0_3
 clear hr0_3 hc0_3
 have HB := Aside0.mk (Below.refl w.heap.size w)
 have H : (spec_l7Copy.l0 k 0 a0_0 a0_1 a0_2 l0_3 a0_0 a0_1 a0_2 ([] : List (S29))) = some (r1, r2, r3, r4) := h
 clear h
 have H' := Aside0.mk H
 clear H
 go_enter Try.func55, Try.ntmps55
 go_wp2_with (first | ((with_reducible refine gate_dst (N := 1) rfl ?_); refine box_event ?hg (N := 1) ?hd (cs := #[.int .i64 a0_0, .string a0_1, .int .i64 a0_2, .slice A0_3 l0_3.length c0_3]) (t := 29) ?hr ?_; (case hd => rfl); (case hg => rfl); (case hr => first | (go_simp; done) | (go_simp; rfl)); intro gb293 hg w2 hbox hb; have BK293 := Aside0.mk (hbox); have GW293 := Aside0.mk ((by rw [hg]; exact (below_size (B0_ HB.out)) : w.heap.size ≤ gb293)); have GE293 := Aside0.mk ((by rw [hg]; exact (below_size (B0_ HB.out)) : w.heap.size ≤ gb293)); replace HB := Aside0.mk (below_step (B0_ HB.out) hb); clear hb hbox hg) | ((with_reducible refine gate_dst (N := 2) rfl ?_); refine box_event ?hg (N := 2) ?hd (cs := #[.int .i64 0, .string (⟨#[]⟩ : ByteArray), .int .i64 0, .slice none 0 0]) (t := 29) ?hr ?_; (case hd => rfl); (case hg => rfl); (case hr => first | (go_simp; done) | (go_simp; rfl)); intro gb294 hg w3 hbox hb; have BK294 := Aside0.mk (hbox); have GW294 := Aside0.mk ((by rw [hg]; exact (below_size (B1_ HB.out GE293.out)) : w.heap.size ≤ gb294)); have GE294 := Aside0.mk ((by rw [hg]; exact (below_size (B1_ HB.out GE293.out)) : w.heap.size ≤ gb294)); replace HB := Aside0.mk (below_step (B1_ HB.out GE293.out) hb); have NB293_294 := Aside0.mk ((by rw [hg]; exact Nat.ne_of_lt (blk_lt (K_ BK293.out)) : gb293 ≠ gb294)); have NB294_293 := Aside0.mk ((by rw [hg]; exact Nat.ne_of_gt (blk_lt (K_ BK293.out)) : gb294 ≠ gb293)); replace BK293 := Aside0.mk (blk_below (K_ BK293.out) hb); clear hb hbox hg; have hnb4 := NB293_294.out; have hnc4 := NB294_293.out; obtain ⟨hcz5_0, hcz5_1, hcz5_2, hcz5_3, hfz5_0, hfz5_1, hfz5_2, hfz5_3⟩ := box4_ BK293.out) | ((with_reducible refine gate_dst (N := 3) rfl ?_); refine box_event ?hg (N := 3) ?hd (cs := #[.int .i64 0, .string (⟨#[]⟩ : ByteArray), .int .i64 0, .slice none 0 0]) (t := 29) ?hr ?_; (case hd => rfl); (case hg => rfl); (case hr => first | (go_simp; done) | (go_simp; rfl)); intro gb295 hg w6 hbox hb; have BK295 := Aside0.mk (hbox); have GW295 := Aside0.mk ((by rw [hg]; exact (below_size (B2_ HB.out GE293.out GE294.out)) : w.heap.size ≤ gb295)); have GE295 := Aside0.mk ((by rw [hg]; exact (below_size (B2_ HB.out GE293.out GE294.out)) : w.heap.size ≤ gb295)); replace HB := Aside0.mk (below_step (B2_ HB.out GE293.out GE294.out) hb); have NB293_295 := Aside0.mk ((by rw [hg]; exact Nat.ne_of_lt (blk_lt (K_ BK293.out)) : gb293 ≠ gb295)); have NB295_293 := Aside0.mk ((by rw [hg]; exact Nat.ne_of_gt (blk_lt (K_ BK293.out)) : gb295 ≠ gb293)); replace BK293 := Aside0.mk (blk_below (K_ BK293.out) hb); have NB294_295 := Aside0.mk ((by rw [hg]; exact Nat.ne_of_lt (blk_lt (K_ BK294.out)) : gb294 ≠ gb295)); have NB295_294 := Aside0.mk ((by rw [hg]; exact Nat.ne_of_gt (blk_lt (K_ BK294.out)) : gb295 ≠ gb294)); replace BK294 := Aside0.mk (blk_below (K_ BK294.out) hb); clear hb hbox hg; have hnb7 := NB295_293.out; have hnc7 := NB293_295.out; have hnb8 := NB295_294.out; have hnc8 := NB294_295.out; obtain ⟨hcz9_0, hcz9_1, hcz9_2, hcz9_3, hfz9_0, hfz9_1, hfz9_2, hfz9_3⟩ := box4_ BK295.out))
 go_loopg [4] k (fun kq v4 w' => ∃ (x4_1 : Int) (x296003_1 : List (S29)) (u296003 : Value), v4 = .int .i64 x4_1 ∧ Aside0 (spec_l7Copy.l0 kq x4_1 a0_0 a0_1 a0_2 l0_3 a0_0 a0_1 a0_2 x296003_1 = some (r1, r2, r3, r4)) ∧ Aside0 (kq ≤ k) ∧ Aside0 (Kd.R k29 29 w' w.heap.size (fun k_ => k_ ≠ gb293 ∧ k_ ≠ gb294 ∧ k_ ≠ gb295) u296003 x296003_1) ∧ Aside0 (w'.heap[gb293]? = some (.cells #[.int .i64 a0_0, .string a0_1, .int .i64 a0_2, (.slice A0_3 l0_3.length c0_3)] 29 (0, 0))) ∧ Aside0 (w'.heap[gb294]? = some (.cells #[.int .i64 0, .string (⟨#[]⟩ : ByteArray), .int .i64 0, (.slice none 0 0)] 29 (0, 0))) ∧ Aside0 (w'.heap[gb295]? = some (.cells #[.int .i64 a0_0, .string a0_1, .int .i64 a0_2, u296003] 29 (0, 0))) ∧ Aside0 (Below w.heap.size w w'))
 case atStart => exact ⟨(0), (([] : List (S29))), (.slice none 0 0), q_, H', ⟨Nat.le_refl _⟩, ⟨by first | exact Kd.R_nil _ _ _ _ _ | exact Kd.N_nil _ _ _ _ _ | exact Kd.V_nil _ _ _ _ _ | exact Kd.Q_nil _ _ _ _ _ | exact Kd.S_nil _ _ _ _ _⟩, ⟨by (with_reducible repeat (first | refine blk_drewN ?_ _ | refine blk_drew ?_ | refine blk_alloc ?_ _)); refine blk_far ?_ NB293_295.out _; (with_reducible repeat (first | refine blk_drewN ?_ _ | refine blk_drew ?_ | refine blk_alloc ?_ _)); refine blk_far ?_ NB293_295.out _; (with_reducible repeat (first | refine blk_drewN ?_ _ | refine blk_drew ?_ | refine blk_alloc ?_ _)); refine blk_far ?_ NB293_295.out _; (with_reducible repeat (first | refine blk_drewN ?_ _ | refine blk_drew ?_ | refine blk_alloc ?_ _)); refine blk_far ?_ NB293_295.out _; (with_reducible repeat (first | refine blk_drewN ?_ _ | refine blk_drew ?_ | refine blk_alloc ?_ _)); exact BK293.out⟩, ⟨by (with_reducible repeat (first | refine blk_drewN ?_ _ | refine blk_drew ?_ | refine blk_alloc ?_ _)); refine blk_far ?_ NB294_295.out _; (with_reducible repeat (first | refine blk_drewN ?_ _ | refine blk_drew ?_ | refine blk_alloc ?_ _)); refine blk_far ?_ NB294_295.out _; (with_reducible repeat (first | refine blk_drewN ?_ _ | refine blk_drew ?_ | refine blk_alloc ?_ _)); refine blk_far ?_ NB294_295.out _; (with_reducible repeat (first | refine blk_drewN ?_ _ | refine blk_drew ?_ | refine blk_alloc ?_ _)); refine blk_far ?_ NB294_295.out _; (with_reducible repeat (first | refine blk_drewN ?_ _ | refine blk_drew ?_ | refine blk_alloc ?_ _)); exact BK294.out⟩, ⟨by (with_reducible repeat (first | refine blk_drewN ?_ _ | refine blk_drew ?_ | refine blk_alloc ?_ _)); refine blk_put (cs := #[.int .i64 a0_0, .string a0_1, .int .i64 a0_2, .slice none 0 0]) ?_ 3 _ rfl; (with_reducible repeat (first | refine blk_drewN ?_ _ | refine blk_drew ?_ | refine blk_alloc ?_ _)); refine blk_put (cs := #[.int .i64 a0_0, .string a0_1, .int .i64 0, .slice none 0 0]) ?_ 2 _ rfl; (with_reducible repeat (first | refine blk_drewN ?_ _ | refine blk_drew ?_ | refine blk_alloc ?_ _)); refine blk_put (cs := #[.int .i64 a0_0, .string (⟨#[]⟩ : ByteArray), .int .i64 0, .slice none 0 0]) ?_ 1 _ rfl; (with_reducible repeat (first | refine blk_drewN ?_ _ | refine blk_drew ?_ | refine blk_alloc ?_ _)); refine blk_put (cs := #[.int .i64 0, .string (⟨#[]⟩ : ByteArray), .int .i64 0, .slice none 0 0]) ?_ 0 _ rfl; (with_reducible repeat (first | refine blk_drewN ?_ _ | refine blk_drew ?_ | refine blk_alloc ?_ _)); exact BK295.out⟩, ⟨B3_ HB.out GE293.out GE294.out GE295.out⟩⟩
 case round =>
  clear H'
  try clear hcz5_0
  try clear hcz5_1
  try clear hcz5_2
  try clear hcz5_3
  try clear hcz9_0
  try clear hcz9_1
  try clear hcz9_2
  try clear hcz9_3
  try clear hfz5_0
  try clear hfz5_1
  try clear hfz5_2
  try clear hfz5_3
  try clear hfz9_0
  try clear hfz9_1
  try clear hfz9_2
  try clear hfz9_3
  obtain ⟨x4_1, x296003_1, u296003, rfl, HA, HK1, HO_296003, BK293, BK294, BK295, HB⟩ := hrel
  cases gk with
  | zero => exact absurd HA.out (by simp [spec_l7Copy.l0])
  | succ k1 =>
   have H := HA.out
   clear HA
   simp only [spec_l7Copy.l0] at H
   by_cases c10 : x4_1 < (l0_3.length : Int)
   ·rw [if_pos c10] at H
    have c10b0 : decide (x4_1 < (l0_3.length : Int)) = true := decide_eq_true c10
    clear c10
    by_cases c11 : 0 ≤ x4_1
    ·rw [if_pos c11] at H
     have c11b0 : decide (0 ≤ x4_1) = true := decide_eq_true c11
     clear c11
     replace H := Option.bind_eq_some_iff.mp H
     obtain ⟨⟨t297, t298, t299, t300⟩, A120, H⟩ := H
     replace H : (if x296003_1.length < 2513169434916 then (spec_l7Copy.l0 k1 (wrap64 (x4_1 + 1)) a0_0 a0_1 a0_2 l0_3 a0_0 a0_1 a0_2 (x296003_1 ++ [(⟨t297, t298, t299, t300⟩ : S29)])) else (none)) = some (r1, r2, r3, r4) := H
     have A12 := Aside0.mk A120
     clear A120
     by_cases c13 : x296003_1.length < 2513169434916
     ·rw [if_pos c13] at H
      have LMc13 := Aside0.mk c13
      clear c13
      obtain ⟨y303, hy303⟩ : ∃ y_ : List (S29), y_ = (x296003_1 ++ [(⟨t297, t298, t299, t300⟩ : S29)]) := ⟨_, rfl⟩
      replace H : (spec_l7Copy.l0 k1 (wrap64 (x4_1 + 1)) a0_0 a0_1 a0_2 l0_3 a0_0 a0_1 a0_2 y303) = some (r1, r2, r3, r4) := by first | (rw [hy303]; with_reducible exact H) | (have H2_ := (Option.bind_some _ _).symm.trans H; rw [hy303]; with_reducible exact H2_) | (have H2_ := (Option.bind_some _ _).symm.trans H; with_reducible exact H2_) | with_reducible exact H | (rw [hy303]; exact H) | exact H
      have Ny303 := Aside0.mk hy303
      clear hy303
      have H' := Aside0.mk H
      clear H
      have hnb14 := NB293_294.out
      have hnc14 := NB294_293.out
      have hnb15 := NB293_295.out
      have hnc15 := NB295_293.out
      obtain ⟨hcz16_0, hcz16_1, hcz16_2, hcz16_3, hfz16_0, hfz16_1, hfz16_2, hfz16_3⟩ := box4_ BK293.out
      try go_wp2
      replace HO_296003 := Aside0.mk (Kd.R_drew HO_296003.out)
      replace BK293 := Aside0.mk (blk_drew BK293.out)
      replace BK294 := Aside0.mk (blk_drew BK294.out)
      replace BK295 := Aside0.mk (blk_drew BK295.out)
      replace HB := Aside0.mk (below_drew1 HB.out)
      have p296 : 0 ≤ (x4_1 : Int) := de_
      have q296 : x4_1 < (l0_3.length : Int) := de_
      obtain ⟨ad296, A296_3, c296_3, e296, hx296_0, hx296_1, hx296_2, hx296_3, hl296_3, hi296_3⟩ := at_T29 HR0_3.out x4_1 p296 q296
      have hw296_3 := hx296_3
      have hw296_2 := hx296_2
      have hw296_1 := hx296_1
      have hw296_0 := hx296_0
      cases e296
      replace hx296_0 := (HB.out.cell (World.block_lt_of_cell? w _ hx296_0)).trans hx296_0
      replace hx296_1 := (HB.out.cell (World.block_lt_of_cell? w _ hx296_1)).trans hx296_1
      replace hx296_2 := (HB.out.cell (World.block_lt_of_cell? w _ hx296_2)).trans hx296_2
      replace hx296_3 := (HB.out.cell (World.block_lt_of_cell? w _ hx296_3)).trans hx296_3
      have HR296_3 := Aside0.mk hi296_3
      have HC296_3 := Aside0.mk hl296_3
      clear hi296_3 hl296_3
      replace p296 := eq_true p296
      replace q296 := eq_true q296
      refine start_ (n := 12) (S := fun w' => w'.cell? ⟨gb295, 0, none⟩ = some (.int .i64 a0_0) ∧ w'.cell? ⟨gb295, 1, none⟩ = some (.string a0_1) ∧ w'.cell? ⟨gb295, 2, none⟩ = some (.int .i64 a0_2) ∧ w'.cell? ⟨gb295, 3, none⟩ = some (u296003) ∧ w'.cell? ⟨gb293, 0, none⟩ = some (.int .i64 a0_0) ∧ w'.cell? ⟨gb293, 1, none⟩ = some (.string a0_1) ∧ w'.cell? ⟨gb293, 2, none⟩ = some (.int .i64 a0_2) ∧ w'.cell? ⟨gb293, 3, none⟩ = some (.slice (some ad296) l0_3.length c0_3) ∧ w'.cell? (ad296.add ((x4_1).toNat * 4)) = some (.int .i64 ((rd_T29 l0_3 x4_1).f0)) ∧ w'.cell? ⟨(ad296.add ((x4_1).toNat * 4)).block, (ad296.add ((x4_1).toNat * 4)).off + 1, none⟩ = some (.string ((rd_T29 l0_3 x4_1).f1)) ∧ w'.cell? ⟨(ad296.add ((x4_1).toNat * 4)).block, (ad296.add ((x4_1).toNat * 4)).off + 2, none⟩ = some (.int .i64 ((rd_T29 l0_3 x4_1).f2)) ∧ w'.cell? ⟨(ad296.add ((x4_1).toNat * 4)).block, (ad296.add ((x4_1).toNat * 4)).off + 3, none⟩ = some (.slice A296_3 ((rd_T29 l0_3 x4_1).f3).length c296_3)) (ds := [11]) #[false, false, false, false, false, false, false, false, false, false, false, false] (by kernel_rfl) rfl rfl ⟨(blk_cell BK295.out 0).trans rfl, (blk_cell BK295.out 1).trans rfl, (blk_cell BK295.out 2).trans rfl, (blk_cell BK295.out 3).trans rfl, (blk_cell BK293.out 0).trans rfl, (blk_cell BK293.out 1).trans rfl, (blk_cell BK293.out 2).trans rfl, (blk_cell BK293.out 3).trans rfl, ((HB.out.cell (World.block_lt_of_cell? w _ hw296_0)).trans hw296_0), ((HB.out.cell (World.block_lt_of_cell? w _ hw296_1)).trans hw296_1), ((HB.out.cell (World.block_lt_of_cell? w _ hw296_2)).trans hw296_2), ((HB.out.cell (World.block_lt_of_cell? w _ hw296_3)).trans hw296_3)⟩ (fun hHeld => ?_); refine with_tabW spec_l7Copy.tab5 spec_l7Copy.bits5 (fun HT_ HW_ => ?_)
      generalize wr.drew = w17 at HO_296003 BK293 BK294 BK295 HB HR296_3 hx296_0 hx296_1 hx296_2 hx296_3 hHeld ⊢
      refine pure_ (i := 0) (N := some 19) (v := ?_) (a' := ?_) #[true, false, false, false, false, false, false, false, false, false, false, false] rfl rfl (any_of HT_.out (by kernel_rfl)) (fun _ _ _ h => h) (Or.inl ⟨by rfl, ?_⟩) ?_ ?_
      rotate_left
      ·intro w'
       go_simp
       with_reducible rfl
      rotate_left
      ·simp only [Act.put, List.setIfInBounds_toArray, List.set_cons_zero, List.set_cons_succ, i64_w, i32_w]
       rfl
      refine pure_ (i := 2) (N := some 21) (v := ?_) (a' := ?_) #[true, false, true, false, false, false, false, false, false, false, false, false] rfl rfl (any_of HT_.out (by kernel_rfl)) (fun _ _ _ h => h) (Or.inl ⟨by rfl, ?_⟩) ?_ ?_
      rotate_left
      ·intro w'
       go_simp
       with_reducible rfl
      rotate_left
      ·simp only [Act.put, List.setIfInBounds_toArray, List.set_cons_zero, List.set_cons_succ, i64_w, i32_w]
       rfl
      refine pure_ (i := 4) (N := some 23) (v := ?_) (a' := ?_) #[true, false, true, false, true, false, false, false, false, false, false, false] rfl rfl (any_of HT_.out (by kernel_rfl)) (fun _ _ _ h => h) (Or.inl ⟨by rfl, ?_⟩) ?_ ?_
      rotate_left
      ·intro w'
       go_simp
       with_reducible rfl
      rotate_left
      ·simp only [Act.put, List.setIfInBounds_toArray, List.set_cons_zero, List.set_cons_succ, i64_w, i32_w]
       rfl
      refine take_ (i := 1) (N := some 20) (v := ?_) (a' := ?_) #[true, true, true, false, true, false, false, false, false, false, false, false] rfl rfl (take_ofW HT_.out HW_.out (by kernel_rfl)) (fun _ _ _ h => h) (Or.inl ⟨by rfl, ?_⟩) hHeld ?_ ?_
      rotate_left
      ·rintro w' ⟨s0, s1, s2, s3, s4, s5, s6, s7, s8, s9, s10, s11⟩
       go_simp
       with_reducible rfl
      rotate_left
      ·simp only [Act.put, List.setIfInBounds_toArray, List.set_cons_zero, List.set_cons_succ, i64_w, i32_w]
       rfl
      refine take_ (i := 3) (N := some 22) (v := ?_) (a' := ?_) #[true, true, true, true, true, false, false, false, false, false, false, false] rfl rfl (take_ofW HT_.out HW_.out (by kernel_rfl)) (fun _ _ _ h => h) (Or.inl ⟨by rfl, ?_⟩) hHeld ?_ ?_
      rotate_left
      ·rintro w' ⟨s0, s1, s2, s3, s4, s5, s6, s7, s8, s9, s10, s11⟩
       go_simp
       with_reducible rfl
      rotate_left
      ·simp only [Act.put, List.setIfInBounds_toArray, List.set_cons_zero, List.set_cons_succ, i64_w, i32_w]
       rfl
      refine pure_ (i := 5) (N := some 24) (v := ?_) (a' := ?_) #[true, true, true, true, true, true, false, false, false, false, false, false] rfl rfl (any_of HT_.out (by kernel_rfl)) (fun _ _ _ h => h) (Or.inl ⟨by rfl, ?_⟩) ?_ ?_
      rotate_left
      ·intro w'
       go_simp
       with_reducible rfl
      rotate_left
      ·simp only [Act.put, List.setIfInBounds_toArray, List.set_cons_zero, List.set_cons_succ, i64_w, i32_w]
       rfl
      refine take_ (i := 6) (N := some 25) (v := ?_) (a' := ?_) #[true, true, true, true, true, true, true, false, false, false, false, false] rfl rfl (take_ofW HT_.out HW_.out (by kernel_rfl)) (fun _ _ _ h => h) (Or.inl ⟨by rfl, ?_⟩) hHeld ?_ ?_
      rotate_left
      ·rintro w' ⟨s0, s1, s2, s3, s4, s5, s6, s7, s8, s9, s10, s11⟩
       go_simp
       with_reducible rfl
      rotate_left
      ·simp only [Act.put, List.setIfInBounds_toArray, List.set_cons_zero, List.set_cons_succ, i64_w, i32_w]
       rfl
      refine one_ (i := 7) (N := some 26) #[true, true, true, true, true, true, true, true, false, false, false, false] rfl rfl (one_of HT_.out (by kernel_rfl)) (by decide) (fun K hK => ?_)
      refine goes_ Try.func55 (by kernel_rfl) rfl #[.agg #[.int .i64 ((rd_T29 l0_3 x4_1).f0), .string ((rd_T29 l0_3 x4_1).f1), .int .i64 ((rd_T29 l0_3 x4_1).f2), .slice A296_3 ((rd_T29 l0_3 x4_1).f3).length c296_3]] (by rfl) rfl rfl ma_ ?_
      with_reducible refine (ih k1 (by have := HK1.out; omega) ((rd_T29 l0_3 x4_1).f0) ((rd_T29 l0_3 x4_1).f1) ((rd_T29 l0_3 x4_1).f2) _ _ ((rd_T29 l0_3 x4_1).f3) t297 t298 t299 t300 _ ?side1 ?side2 A12.out).mono ?_
      (case side1 => exact C_ (Kd.C_below HR296_3.out HB.out))
      (case side2 => exact HC296_3.out)
      rintro e w18 ⟨v301, rfl, ho0, hb⟩
      refine ⟨_, rfl, ?_⟩
      have HO302 := Aside0.mk (Kd.R_lower (Kd.R_newB (Kd.R_newB (Kd.R_newB (Kd.R_new' ho0 (Kd.R_lt (R_ HO_296003.out))) (g := gb293) (o := .cells #[.int .i64 a0_0, .string a0_1, .int .i64 a0_2, .slice (some ad296) l0_3.length c0_3] 29 (0, 0)) (K_ BK293.out)) (g := gb294) (o := .cells #[.int .i64 0, .string (⟨#[]⟩ : ByteArray), .int .i64 0, .slice none 0 0] 29 (0, 0)) (K_ BK294.out)) (g := gb295) (o := .cells #[.int .i64 a0_0, .string a0_1, .int .i64 a0_2, u296003] 29 (0, 0)) (K_ BK295.out)) (below_size (B3_ HB.out GE293.out GE294.out GE295.out)))
      replace HO_296003 := Aside0.mk (Kd.R_elder' (R_ HO_296003.out) (Kd.R_base ho0) hb)
      replace BK293 := Aside0.mk (blk_below (K_ BK293.out) hb)
      replace BK294 := Aside0.mk (blk_below (K_ BK294.out) hb)
      replace BK295 := Aside0.mk (blk_below (K_ BK295.out) hb)
      replace HB := Aside0.mk (below_step (B3_ HB.out GE293.out GE294.out GE295.out) hb)
      (try clear hb)
      (try clear hb2)
      (try clear hk)
      (try clear hi)
      (try clear ho0)
      obtain ⟨Ao20, co20, eo20⟩ := Kd.R_slice HO302.out
      (first | subst eo20 | (injection eo20 with f1_ f2_ f3_; have f4_ := f1_.symm; have f5_ := f3_.symm; clear f1_ f2_ f3_; subst f4_; subst f5_))
      refine hK.out _ _ ⟨(blk_cell BK295.out 0).trans rfl, (blk_cell BK295.out 1).trans rfl, (blk_cell BK295.out 2).trans rfl, (blk_cell BK295.out 3).trans rfl, (blk_cell BK293.out 0).trans rfl, (blk_cell BK293.out 1).trans rfl, (blk_cell BK293.out 2).trans rfl, (blk_cell BK293.out 3).trans rfl, ((HB.out.cell (World.block_lt_of_cell? w _ hw296_0)).trans hw296_0), ((HB.out.cell (World.block_lt_of_cell? w _ hw296_1)).trans hw296_1), ((HB.out.cell (World.block_lt_of_cell? w _ hw296_2)).trans hw296_2), ((HB.out.cell (World.block_lt_of_cell? w _ hw296_3)).trans hw296_3)⟩ (fun hHeld => ?_)
      clear hK K
      refine norm_ (a' := ?_) ?_ ?_
      rotate_left
      ·show Act.put _ (some 26) _ = _
       simp only [Act.put, List.setIfInBounds_toArray, List.set_cons_zero, List.set_cons_succ, i64_w, i32_w]
       rfl
      refine one_ (i := 8) (N := some 27) #[true, true, true, true, true, true, true, true, true, false, false, false] rfl rfl (one_of HT_.out (by kernel_rfl)) (by decide) (fun K hK => ?_)
      refine value_ (w1 := ?_) (v := ?_) (by rfl) rfl ?_ ?_
      rotate_left 2
      ·go_simp
       constructor
       ·rfl
       ·rfl
      refine hK.out _ _ ⟨(blk_cell (blk_alloc BK295.out _) 0).trans rfl, (blk_cell (blk_alloc BK295.out _) 1).trans rfl, (blk_cell (blk_alloc BK295.out _) 2).trans rfl, (blk_cell (blk_alloc BK295.out _) 3).trans rfl, (blk_cell (blk_alloc BK293.out _) 0).trans rfl, (blk_cell (blk_alloc BK293.out _) 1).trans rfl, (blk_cell (blk_alloc BK293.out _) 2).trans rfl, (blk_cell (blk_alloc BK293.out _) 3).trans rfl, (World.cell?_alloc_lt _ _ _ (World.block_lt_of_cell? _ _ (((HB.out.cell (World.block_lt_of_cell? w _ hw296_0)).trans hw296_0)))).trans (((HB.out.cell (World.block_lt_of_cell? w _ hw296_0)).trans hw296_0)), (World.cell?_alloc_lt _ _ _ (World.block_lt_of_cell? _ _ (((HB.out.cell (World.block_lt_of_cell? w _ hw296_1)).trans hw296_1)))).trans (((HB.out.cell (World.block_lt_of_cell? w _ hw296_1)).trans hw296_1)), (World.cell?_alloc_lt _ _ _ (World.block_lt_of_cell? _ _ (((HB.out.cell (World.block_lt_of_cell? w _ hw296_2)).trans hw296_2)))).trans (((HB.out.cell (World.block_lt_of_cell? w _ hw296_2)).trans hw296_2)), (World.cell?_alloc_lt _ _ _ (World.block_lt_of_cell? _ _ (((HB.out.cell (World.block_lt_of_cell? w _ hw296_3)).trans hw296_3)))).trans (((HB.out.cell (World.block_lt_of_cell? w _ hw296_3)).trans hw296_3))⟩ (fun hHeld => ?_)
      clear hK K
      refine norm_ (a' := ?_) ?_ ?_
      rotate_left
      ·show Act.put _ (some 27) _ = _
       simp only [Act.put, List.setIfInBounds_toArray, List.set_cons_zero, List.set_cons_succ, i64_w, i32_w]
       rfl
      refine one_ (i := 9) (N := some 28) #[true, true, true, true, true, true, true, true, true, true, false, false] rfl rfl (one_of HT_.out (by kernel_rfl)) (by decide) (fun K hK => ?_)
      refine Kd.R_append_step k29 (w0 := w) w.heap.size (by rfl) (.tmp 20) (.tmp 27) 27 29 (.agg #[(.int .i64 0), (.string ⟨#[]⟩), (.int .i64 0), (.slice none 0 0)]) 56 rfl Try.underlying27 info29 rfl (by decide) (by omega) u296003 x296003_1 (⟨t297, t298, t299, t300⟩ : S29) [.int .i64 t297, .string t298, .int .i64 t299, .slice Ao20 t300.length co20] (fun k_ => k_ ≠ gb293 ∧ k_ ≠ gb294 ∧ k_ ≠ gb295) (fun k_ => ((fun k_ => k_ ≠ gb293 ∧ k_ ≠ gb294 ∧ k_ ≠ gb295)) k_ ∧ some k_ ≠ (u296003 : Value).ownBlock) rfl rfl ?aP (fun _ hk => hk) ?aF ?aO ?aB ?aS ?aL ?_
      (case aP => exact k29_mkM _ _ _ (⟨t297, t298, t299, t300⟩ : S29) (Kd.R_mono (HO302.out) (fun k_ hk => ⟨⟨hk.1.1.2, ⟨hk.1.2, hk.2⟩⟩, hk.1.1.1.2⟩)))
      (case aB => exact (B3_ HB.out GE293.out GE294.out GE295.out))
      (case aF => exact (fun k_ hk => ⟨Kd.freshB (K_ BK293.out) k_ hk, Kd.freshB (K_ BK294.out) k_ hk, Kd.freshB (K_ BK295.out) k_ hk⟩))
      (case aO => exact (by (with_reducible repeat (first | apply Kd.R_alloc | apply Kd.R_drewN | apply Kd.R_drew)); exact Kd.R_mono HO_296003.out (fun _ hk => ⟨hk.1.1, ⟨hk.1.2.1, hk.1.2.2⟩⟩)))
      (case aS => exact (below_size (B3_ HB.out GE293.out GE294.out GE295.out)))
      (case aL => have := LMc13.out; omega)
      intro v304 w19 ho hb hg hat
      rw [← Ny303.out] at ho
      replace BK293 := Aside0.mk (blk_grown (g := gb293) (o := .cells #[.int .i64 a0_0, .string a0_1, .int .i64 a0_2, .slice (some ad296) l0_3.length c0_3] 29 (0, 0)) (K_ BK293.out) hg (Kd.R_away HO_296003.out (fun _ hk => hk.1.1)))
      replace BK294 := Aside0.mk (blk_grown (g := gb294) (o := .cells #[.int .i64 0, .string (⟨#[]⟩ : ByteArray), .int .i64 0, .slice none 0 0] 29 (0, 0)) (K_ BK294.out) hg (Kd.R_away HO_296003.out (fun _ hk => hk.1.2.1)))
      replace BK295 := Aside0.mk (blk_grown (g := gb295) (o := .cells #[.int .i64 a0_0, .string a0_1, .int .i64 a0_2, u296003] 29 (0, 0)) (K_ BK295.out) hg (Kd.R_away HO_296003.out (fun _ hk => hk.1.2.2)))
      replace HB := Aside0.mk (hb)
      have HO305 := Aside0.mk (ho)
      clear HO_296003 HO302
      clear ho hb hg hat
      obtain ⟨Ao21, co21, eo21⟩ := Kd.R_slice HO305.out
      (first | subst eo21 | (injection eo21 with f1_ f2_ f3_; have f4_ := f1_.symm; have f5_ := f3_.symm; clear f1_ f2_ f3_; subst f4_; subst f5_))
      refine hK.out _ _ ⟨(blk_cell BK295.out 0).trans rfl, (blk_cell BK295.out 1).trans rfl, (blk_cell BK295.out 2).trans rfl, (blk_cell BK295.out 3).trans rfl, (blk_cell BK293.out 0).trans rfl, (blk_cell BK293.out 1).trans rfl, (blk_cell BK293.out 2).trans rfl, (blk_cell BK293.out 3).trans rfl, ((HB.out.cell (World.block_lt_of_cell? w _ hw296_0)).trans hw296_0), ((HB.out.cell (World.block_lt_of_cell? w _ hw296_1)).trans hw296_1), ((HB.out.cell (World.block_lt_of_cell? w _ hw296_2)).trans hw296_2), ((HB.out.cell (World.block_lt_of_cell? w _ hw296_3)).trans hw296_3)⟩ (fun hHeld => ?_)
      clear hK K
      refine norm_ (a' := ?_) ?_ ?_
      rotate_left
      ·show Act.put _ (some 28) _ = _
       simp only [Act.put, List.setIfInBounds_toArray, List.set_cons_zero, List.set_cons_succ, i64_w, i32_w]
       rfl
      refine pure_ (i := 10) (N := some 29) (v := ?_) (a' := ?_) #[true, true, true, true, true, true, true, true, true, true, true, false] rfl rfl (any_of HT_.out (by kernel_rfl)) (fun _ _ _ h => h) (Or.inl ⟨by rfl, ?_⟩) ?_ ?_
      rotate_left
      ·intro w'
       go_simp
       with_reducible rfl
      rotate_left
      ·simp only [Act.put, List.setIfInBounds_toArray, List.set_cons_zero, List.set_cons_succ, i64_w, i32_w]
       rfl
      refine last_ (i := 11) (N := none) #[true, true, true, true, true, true, true, true, true, true, true, true] rfl rfl (one_of HT_.out (by kernel_rfl)) (by decide) (fun K hK => ?_)
      have hs22 : w19.cell? ⟨gb295, 3, none⟩ = some (u296003) := (blk_cell BK295.out 3).trans rfl
      have hfs22 := blk_frozen BK295.out 3
      have hns22_0 := NB293_295.out
      have hns22_1 := NB294_295.out
      have hms22_0 := NB295_293.out
      have hms22_1 := NB295_294.out
      refine skip_ (w1 := ?_) (by rfl) rfl ?_ ?_
      rotate_left
      ·go_simp
       rfl
      refine hK.out _ _ ?_
      clear hK K
      refine done_ (done_of HT_.out (by kernel_rfl)) ?_
      try go_wp2
      go_roundg k1
      case measure => have := HK1.out; omega
      case rel => exact ⟨(wrap64 (x4_1 + 1)), (y303), (.slice Ao21 y303.length co21), q_, H', ⟨by have := HK1.out; omega⟩, ⟨by (with_reducible repeat (first | apply Kd.R_alloc | apply Kd.R_drewN | apply Kd.R_drew)); exact Kd.R_mono (Kd.R_far (p := ⟨gb295, 3, none⟩) (Kd.R_mono HO305.out (fun k_ hk => (⟨hk, hk.2.2⟩ : _ ∧ k_ ≠ gb295))) (fun _ hk => hk.2) (.slice Ao21 y303.length co21)) (fun _ hk => ⟨hk.1.1, ⟨hk.1.2.1, hk.1.2.2⟩⟩)⟩, ⟨by (with_reducible repeat (first | refine blk_drewN ?_ _ | refine blk_drew ?_ | refine blk_alloc ?_ _)); refine blk_far ?_ NB293_295.out _; (with_reducible repeat (first | refine blk_drewN ?_ _ | refine blk_drew ?_ | refine blk_alloc ?_ _)); exact BK293.out⟩, ⟨by (with_reducible repeat (first | refine blk_drewN ?_ _ | refine blk_drew ?_ | refine blk_alloc ?_ _)); refine blk_far ?_ NB294_295.out _; (with_reducible repeat (first | refine blk_drewN ?_ _ | refine blk_drew ?_ | refine blk_alloc ?_ _)); exact BK294.out⟩, ⟨by (with_reducible repeat (first | refine blk_drewN ?_ _ | refine blk_drew ?_ | refine blk_alloc ?_ _)); refine blk_put (cs := #[.int .i64 a0_0, .string a0_1, .int .i64 a0_2, u296003]) ?_ 3 _ rfl; (with_reducible repeat (first | refine blk_drewN ?_ _ | refine blk_drew ?_ | refine blk_alloc ?_ _)); exact BK295.out⟩, ⟨B3_ HB.out GE293.out GE294.out GE295.out⟩⟩
     ·rw [if_neg c13] at H
      exact absurd H (by simp)
    ·rw [if_neg c11] at H
     exact absurd H (by simp)
   ·rw [if_neg c10] at H
    have c10b0 : decide (x4_1 < (l0_3.length : Int)) = false := decide_eq_false c10
    clear c10
    simp only [Option.some.injEq, Prod.mk.injEq] at H
    obtain ⟨rfl, rfl, rfl, rfl⟩ := H
    have hnb23 := NB293_294.out
    have hnc23 := NB294_293.out
    have hnb24 := NB293_295.out
    have hnc24 := NB295_293.out
    obtain ⟨hcz25_0, hcz25_1, hcz25_2, hcz25_3, hfz25_0, hfz25_1, hfz25_2, hfz25_3⟩ := box4_ BK293.out
    have hnb26 := NB295_294.out
    have hnc26 := NB294_295.out
    obtain ⟨hcz27_0, hcz27_1, hcz27_2, hcz27_3, hfz27_0, hfz27_1, hfz27_2, hfz27_3⟩ := box4_ BK295.out
    obtain ⟨hcz28_0, hcz28_1, hcz28_2, hcz28_3, hfz28_0, hfz28_1, hfz28_2, hfz28_3⟩ := box4_ BK294.out
    obtain ⟨Ao29, co29, eo29⟩ := Kd.R_slice HO_296003.out
    subst eo29
    go_wp2
    refine bodyPost_ret (results_cell_row rfl _ _ gb294 29 #[.int .i64 a0_0, .string a0_1, .int .i64 a0_2, .slice Ao29 x296003_1.length co29] (0, 0) _ rfl (by (with_reducible repeat (first | refine blk_drewN ?_ _ | refine blk_drew ?_ | refine blk_alloc ?_ _)); refine blk_put (cs := #[.int .i64 a0_0, .string a0_1, .int .i64 a0_2, .slice none 0 0]) ?_ 3 _ rfl; (with_reducible repeat (first | refine blk_drewN ?_ _ | refine blk_drew ?_ | refine blk_alloc ?_ _)); refine blk_put (cs := #[.int .i64 a0_0, .string a0_1, .int .i64 0, .slice none 0 0]) ?_ 2 _ rfl; (with_reducible repeat (first | refine blk_drewN ?_ _ | refine blk_drew ?_ | refine blk_alloc ?_ _)); refine blk_put (cs := #[.int .i64 a0_0, .string (⟨#[]⟩ : ByteArray), .int .i64 0, .slice none 0 0]) ?_ 1 _ rfl; (with_reducible repeat (first | refine blk_drewN ?_ _ | refine blk_drew ?_ | refine blk_alloc ?_ _)); refine blk_put (cs := #[.int .i64 0, .string (⟨#[]⟩ : ByteArray), .int .i64 0, .slice none 0 0]) ?_ 0 _ rfl; (with_reducible repeat (first | refine blk_drewN ?_ _ | refine blk_drew ?_ | refine blk_alloc ?_ _)); exact BK294.out) Try.underlying29 rfl (by kernel_rfl)) rfl ?_
    exact ⟨_, er_, by (with_reducible repeat (first | apply Kd.R_alloc | apply Kd.R_drewN | apply Kd.R_drew)); exact Kd.R_mono (Kd.R_far (p := ⟨gb294, 3, none⟩) (Kd.R_far (p := ⟨gb294, 2, none⟩) (Kd.R_far (p := ⟨gb294, 1, none⟩) (Kd.R_far (p := ⟨gb294, 0, none⟩) (Kd.R_mono HO_296003.out (fun k_ hk => (⟨hk, hk.2.1⟩ : _ ∧ k_ ≠ gb294))) (fun _ hk => hk.2) (.int .i64 a0_0)) (fun _ hk => hk.2) (.string a0_1)) (fun _ hk => hk.2) (.int .i64 a0_2)) (fun _ hk => hk.2) (.slice Ao29 x296003_1.length co29)) (fun _ hk => trivial), B3_ HB.out GE293.out GE294.out GE295.out⟩

/-! ### spec_DrawEqualOptic: function 30 -/
def spec_DrawEqualOptic.f (k : Nat) (l0 : List Int) : Option (Int × ByteArray × Int × (List (S29)) × Int × ByteArray × Int × (List (S29))) := (spec_l1New.f k l0).bind fun bt308 => ((spec_l7Bent.f k bt308.1 bt308.2.1 bt308.2.2).bind fun bt312 => ((spec_l1Once.f bt308.1 bt312.2.2.2.2.1 bt312.2.2.2.2.2 2).bind fun bt321 => (if bt321.1 = true then ((spec_l7Copy.f k bt312.1 bt312.2.1 bt312.2.2.1 bt312.2.2.2.1).bind fun bt324 => (some (bt312.1, bt312.2.1, bt312.2.2.1, bt312.2.2.2.1, bt324.1, bt324.2.1, bt324.2.2.1, bt324.2.2.2))) else ((spec_l7Bent.f k bt308.1 bt321.2.1 bt321.2.2).bind fun bt330 => (some (bt312.1, bt312.2.1, bt312.2.2.1, bt312.2.2.2.1, bt330.1, bt330.2.1, bt330.2.2.1, bt330.2.2.2.1))))))
theorem spec_DrawEqualOptic.mono : ∀ a0 k, LeO (spec_DrawEqualOptic.f k a0) (spec_DrawEqualOptic.f (k + 1) a0) := by
 intro a0 k
 unfold spec_DrawEqualOptic.f
 repeat' first
   | (with_reducible exact spec_l1New.mono _ _)
   | (with_reducible exact spec_l7Bent.mono _ _ _ _)
   | (with_reducible exact spec_l7Copy.mono _ _ _ _ _)
   | (with_reducible exact LeO.refl _)
   | (with_reducible exact LeO.none _)
   | (with_reducible refine LeO.ite ?_ ?_)
   | (with_reducible refine LeO.bind ?_ (fun _ => ?_))
   | exact spec_l1New.mono _ _
   | exact spec_l7Bent.mono _ _ _ _
   | exact spec_l7Copy.mono _ _ _ _ _
   | exact LeO.none _
   | refine LeO.ite ?_ ?_
   | refine LeO.bind ?_ (fun _ => ?_)
set_option maxHeartbeats 8000000 in
set_option maxRecDepth 100000 in
theorem spec_DrawEqualOptic.calls (k : Nat) (A0 : Option Addr) (c0 : Nat) (l0 : List Int) (r1 : Int) (r2 : ByteArray) (r3 : Int) (r4 : List (S29)) (r5 : Int) (r6 : ByteArray) (r7 : Int) (r8 : List (S29)) (w : World) (hr0 : Kd.C (Kd.int .u8) w A0 l0.length l0) (hc0 : l0.length ≤ c0) (h : spec_DrawEqualOptic.f k l0 = some (r1, r2, r3, r4, r5, r6, r7, r8)) :
  Calls Try.prog 30 #[.slice A0 l0.length c0] w fun e w' => ∃ v3_ v7_ : Value, e = .returned (.tuple #[.agg #[.int .i64 r1, .string r2, .int .i64 r3, v3_], .agg #[.int .i64 r5, .string r6, .int .i64 r7, v7_]]) ∧ Kd.R k29 29 w' w.heap.size (fun k_ => some k_ ≠ (v7_ : Value).ownBlock) v3_ r4 ∧ Kd.R k29 29 w' w.heap.size (fun k_ => some k_ ≠ (v3_ : Value).ownBlock) v7_ r8 ∧ Below w.heap.size w w' := by
 have hu29 := Try.underlying29
 have HR0 := Aside0.mk hr0
 have HC0 := Aside0.mk hc0
 clear hr0 hc0
 have HB := Aside0.mk (Below.refl w.heap.size w)
 have H : ((spec_l1New.f k l0).bind fun bt308 => ((spec_l7Bent.f k bt308.1 bt308.2.1 bt308.2.2).bind fun bt312 => ((spec_l1Once.f bt308.1 bt312.2.2.2.2.1 bt312.2.2.2.2.2 2).bind fun bt321 => (if bt321.1 = true then ((spec_l7Copy.f k bt312.1 bt312.2.1 bt312.2.2.1 bt312.2.2.2.1).bind fun bt324 => (some (bt312.1, bt312.2.1, bt312.2.2.1, bt312.2.2.2.1, bt324.1, bt324.2.1, bt324.2.2.1, bt324.2.2.2))) else ((spec_l7Bent.f k bt308.1 bt321.2.1 bt321.2.2).bind fun bt330 => (some (bt312.1, bt312.2.1, bt312.2.2.1, bt312.2.2.2.1, bt330.1, bt330.2.1, bt330.2.2.1, bt330.2.2.2.1))))))) = some (r1, r2, r3, r4, r5, r6, r7, r8) := h
 clear h
 replace H := Option.bind_eq_some_iff.mp H
 obtain ⟨⟨t308, t309, t310⟩, A20, H⟩ := H
 replace H : ((spec_l7Bent.f k t308 t309 t310).bind fun bt312 => ((spec_l1Once.f t308 bt312.2.2.2.2.1 bt312.2.2.2.2.2 2).bind fun bt321 => (if bt321.1 = true then ((spec_l7Copy.f k bt312.1 bt312.2.1 bt312.2.2.1 bt312.2.2.2.1).bind fun bt324 => (some (bt312.1, bt312.2.1, bt312.2.2.1, bt312.2.2.2.1, bt324.1, bt324.2.1, bt324.2.2.1, bt324.2.2.2))) else ((spec_l7Bent.f k t308 bt321.2.1 bt321.2.2).bind fun bt330 => (some (bt312.1, bt312.2.1, bt312.2.2.1, bt312.2.2.2.1, bt330.1, bt330.2.1, bt330.2.2.1, bt330.2.2.2.1)))))) = some (r1, r2, r3, r4, r5, r6, r7, r8) := H
 have A2 := Aside0.mk A20
 clear A20
 replace H := Option.bind_eq_some_iff.mp H
 obtain ⟨⟨t312, t313, t314, t315, t318, t319⟩, A30, H⟩ := H
 replace H : ((spec_l1Once.f t308 t318 t319 2).bind fun bt321 => (if bt321.1 = true then ((spec_l7Copy.f k t312 t313 t314 t315).bind fun bt324 => (some (t312, t313, t314, t315, bt324.1, bt324.2.1, bt324.2.2.1, bt324.2.2.2))) else ((spec_l7Bent.f k t308 bt321.2.1 bt321.2.2).bind fun bt330 => (some (t312, t313, t314, t315, bt330.1, bt330.2.1, bt330.2.2.1, bt330.2.2.2.1))))) = some (r1, r2, r3, r4, r5, r6, r7, r8) := H
 have A3 := Aside0.mk A30
 clear A30
 replace H := Option.bind_eq_some_iff.mp H
 obtain ⟨⟨t321, t322, t323⟩, A40, H⟩ := H
 replace H : (if t321 = true then ((spec_l7Copy.f k t312 t313 t314 t315).bind fun bt324 => (some (t312, t313, t314, t315, bt324.1, bt324.2.1, bt324.2.2.1, bt324.2.2.2))) else ((spec_l7Bent.f k t308 t322 t323).bind fun bt330 => (some (t312, t313, t314, t315, bt330.1, bt330.2.1, bt330.2.2.1, bt330.2.2.2.1)))) = some (r1, r2, r3, r4, r5, r6, r7, r8) := H
 have A4 := Aside0.mk A40
 clear A40
 by_cases c5 : t321 = true
 ·subst c5
  have H1 : ((spec_l7Copy.f k t312 t313 t314 t315).bind fun bt324 => (some (t312, t313, t314, t315, bt324.1, bt324.2.1, bt324.2.2.1, bt324.2.2.2))) = some (r1, r2, r3, r4, r5, r6, r7, r8) := by rw [if_pos rfl] at H; exact H
  clear H
  have H := H1
  clear H1
  replace H := Option.bind_eq_some_iff.mp H
  obtain ⟨⟨t324, t325, t326, t327⟩, A60, H⟩ := H
  replace H : (some (t312, t313, t314, t315, t324, t325, t326, t327)) = some (r1, r2, r3, r4, r5, r6, r7, r8) := H
  have A6 := Aside0.mk A60
  clear A60
  simp only [Option.some.injEq, Prod.mk.injEq] at H
  obtain ⟨rfl, rfl, rfl, rfl, rfl, rfl, rfl, rfl⟩ := H
  go_enter Try.func30, Try.ntmps30
  try go_wp2_with (first | ((with_reducible refine gate_dst (N := 2) rfl ?_); refine box_event ?hg (N := 2) ?hd (cs := #[.int .i64 0, .string (⟨#[]⟩ : ByteArray), .int .i64 0, .slice none 0 0]) (t := 29) ?hr ?_; (case hd => rfl); (case hg => rfl); (case hr => first | (go_simp; done) | (go_simp; rfl)); intro gb306 hg w7 hbox hb; have BK306 := Aside0.mk (hbox); have GW306 := Aside0.mk ((by rw [hg]; exact (below_size (B0_ HB.out)) : w.heap.size ≤ gb306)); have GE306 := Aside0.mk ((by rw [hg]; exact (below_size (B0_ HB.out)) : w.heap.size ≤ gb306)); replace HB := Aside0.mk (below_step (B0_ HB.out) hb); clear hb hbox hg) | ((with_reducible refine gate_dst (N := 3) rfl ?_); refine box_event ?hg (N := 3) ?hd (cs := #[.int .i64 0, .string (⟨#[]⟩ : ByteArray), .int .i64 0, .slice none 0 0]) (t := 29) ?hr ?_; (case hd => rfl); (case hg => rfl); (case hr => first | (go_simp; done) | (go_simp; rfl)); intro gb307 hg w8 hbox hb; have BK307 := Aside0.mk (hbox); have GW307 := Aside0.mk ((by rw [hg]; exact (below_size (B1_ HB.out GE306.out)) : w.heap.size ≤ gb307)); have GE307 := Aside0.mk ((by rw [hg]; exact (below_size (B1_ HB.out GE306.out)) : w.heap.size ≤ gb307)); replace HB := Aside0.mk (below_step (B1_ HB.out GE306.out) hb); have NB306_307 := Aside0.mk ((by rw [hg]; exact Nat.ne_of_lt (blk_lt (K_ BK306.out)) : gb306 ≠ gb307)); have NB307_306 := Aside0.mk ((by rw [hg]; exact Nat.ne_of_gt (blk_lt (K_ BK306.out)) : gb307 ≠ gb306)); replace BK306 := Aside0.mk (blk_below (K_ BK306.out) hb); clear hb hbox hg) | ((with_reducible refine gate_callee (f := 51) rfl ?_); refine goesL_ (some 7) rfl rfl Try.func51 (by kernel_rfl) rfl #[.slice A0 l0.length c0] rfl ma_ ?_; (with_reducible refine (spec_l1New.calls k _ _ l0 t308 t309 t310 w _ ?side1 ?side2 ?side3 A2.out).mono ?_); (case side1 => repeat (first | (with_reducible first | exact HB.out | apply below_alloc | apply pw_below_drewN | apply below_drew1 | refine below_set ?_ GE306.out | refine below_set ?_ GE307.out) | exact HB.out)); (case side2 => exact HR0.out); (case side3 => exact HC0.out); rintro e w9 ⟨g311, rfl, hi, hb, hb2⟩; refine ⟨_, rfl, ?_⟩; replace HB := Aside0.mk (hb); have HI311 := Aside0.mk (hi); have NB311_306 := Aside0.mk (IsS75.ne_blk hi (blk_below (K_ BK306.out) hb2) (by decide)); have NB306_311 := Aside0.mk (Ne.symm (IsS75.ne_blk hi (blk_below (K_ BK306.out) hb2) (by decide))); replace BK306 := Aside0.mk (blk_below (K_ BK306.out) hb2); have NB311_307 := Aside0.mk (IsS75.ne_blk hi (blk_below (K_ BK307.out) hb2) (by decide)); have NB307_311 := Aside0.mk (Ne.symm (IsS75.ne_blk hi (blk_below (K_ BK307.out) hb2) (by decide))); replace BK307 := Aside0.mk (blk_below (K_ BK307.out) hb2); (try clear hb); (try clear hb2); (try clear hk); (try clear hi)) | ((with_reducible refine gate_callee (f := 52) rfl ?_); refine goesL_ (some 9) rfl rfl Try.func52 (by kernel_rfl) rfl #[.pointer (some ⟨g311, 0, none⟩)] rfl ma_ ?_; (with_reducible refine (spec_l7Bent.calls k g311 t308 t309 t310 t312 t313 t314 t315 t318 t319 w _ ?side1 ?side2 A3.out).mono ?_); (case side1 => repeat (first | (with_reducible first | exact HI311.out | apply IsS75.alloc | apply IsS75.drewN | apply IsS75.drew | apply IsS75.set_1 | apply IsS75.set_2 | refine IsS75.far ?_ NB311_306.out _ | refine IsS75.far ?_ NB311_307.out _) | exact HI311.out)); (case side2 => repeat (first | (with_reducible first | exact HB.out | apply below_alloc | apply pw_below_drewN | apply below_drew1 | refine below_set ?_ (IsS75.ge HI311.out) | refine below_set ?_ GE306.out | refine below_set ?_ GE307.out) | exact HB.out)); rintro e w10 ⟨v316, rfl, ho0, hi, hb, hk⟩; refine ⟨_, rfl, ?_⟩; have HO317 := Aside0.mk (Kd.R_lower (Kd.R_newB (Kd.R_newB ho0 (g := gb306) (o := .cells #[.int .i64 0, .string (⟨#[]⟩ : ByteArray), .int .i64 0, .slice none 0 0] 29 (0, 0)) (K_ BK306.out)) (g := gb307) (o := .cells #[.int .i64 0, .string (⟨#[]⟩ : ByteArray), .int .i64 0, .slice none 0 0] 29 (0, 0)) (K_ BK307.out)) (below_size (by repeat (first | (with_reducible first | exact HB.out | apply below_alloc | apply pw_below_drewN | apply below_drew1 | refine below_set ?_ (IsS75.ge HI311.out) | refine below_set ?_ GE306.out | refine below_set ?_ GE307.out) | exact HB.out)))); replace BK306 := Aside0.mk (KeepBut.blk hk (g' := gb306) (o := .cells #[.int .i64 0, .string (⟨#[]⟩ : ByteArray), .int .i64 0, .slice none 0 0] 29 (0, 0)) (K_ BK306.out) NB306_311.out (by simp)); replace BK307 := Aside0.mk (KeepBut.blk hk (g' := gb307) (o := .cells #[.int .i64 0, .string (⟨#[]⟩ : ByteArray), .int .i64 0, .slice none 0 0] 29 (0, 0)) (K_ BK307.out) NB307_311.out (by simp)); replace HB := Aside0.mk (hb); replace HI311 := Aside0.mk (hi); (try clear hb); (try clear hb2); (try clear hk); (try clear hi); (try clear ho0)) | ((with_reducible refine gate_dst (N := 5) rfl ?_); refine box_event ?hg (N := 5) ?hd (cs := #[.int .i64 0, .string (⟨#[]⟩ : ByteArray), .int .i64 0, .slice none 0 0]) (t := 29) ?hr ?_; (case hd => rfl); (case hg => rfl); (case hr => first | (go_simp; done) | (go_simp; rfl)); intro gb320 hg w11 hbox hb; replace HO317 := Aside0.mk (Kd.R_below (Kd.R_elderB (R_ HO317.out) gb320 (Nat.le_of_eq hg.symm)) hb); have BK320 := Aside0.mk (hbox); have GW320 := Aside0.mk ((by rw [hg]; exact (below_size (by repeat (first | (with_reducible first | exact HB.out | apply below_alloc | apply pw_below_drewN | apply below_drew1 | refine below_set ?_ (IsS75.ge HI311.out) | refine below_set ?_ GE306.out | refine below_set ?_ GE307.out) | exact HB.out))) : w.heap.size ≤ gb320)); have GE320 := Aside0.mk ((by rw [hg]; exact (below_size (by repeat (first | (with_reducible first | exact HB.out | apply below_alloc | apply pw_below_drewN | apply below_drew1 | refine below_set ?_ (IsS75.ge HI311.out) | refine below_set ?_ GE306.out | refine below_set ?_ GE307.out) | exact HB.out))) : w.heap.size ≤ gb320)); replace HB := Aside0.mk (below_step (by repeat (first | (with_reducible first | exact HB.out | apply below_alloc | apply pw_below_drewN | apply below_drew1 | refine below_set ?_ (IsS75.ge HI311.out) | refine below_set ?_ GE306.out | refine below_set ?_ GE307.out) | exact HB.out)) hb); have NB306_320 := Aside0.mk ((by rw [hg]; exact Nat.ne_of_lt (blk_lt (K_ BK306.out)) : gb306 ≠ gb320)); have NB320_306 := Aside0.mk ((by rw [hg]; exact Nat.ne_of_gt (blk_lt (K_ BK306.out)) : gb320 ≠ gb306)); replace BK306 := Aside0.mk (blk_below (K_ BK306.out) hb); have NB307_320 := Aside0.mk ((by rw [hg]; exact Nat.ne_of_lt (blk_lt (K_ BK307.out)) : gb307 ≠ gb320)); have NB320_307 := Aside0.mk ((by rw [hg]; exact Nat.ne_of_gt (blk_lt (K_ BK307.out)) : gb320 ≠ gb307)); replace BK307 := Aside0.mk (blk_below (K_ BK307.out) hb); have NB311_320 := Aside0.mk ((by rw [hg]; exact Nat.ne_of_lt (IsS75.lt (show IsS75 w _ g311 t308 t318 t319 from by repeat (first | (with_reducible first | exact HI311.out | apply IsS75.alloc | apply IsS75.drewN | apply IsS75.drew | apply IsS75.set_1 | apply IsS75.set_2 | refine IsS75.far ?_ NB311_306.out _ | refine IsS75.far ?_ NB311_307.out _) | exact HI311.out))) : g311 ≠ gb320)); have NB320_311 := Aside0.mk ((by rw [hg]; exact Nat.ne_of_gt (IsS75.lt (show IsS75 w _ g311 t308 t318 t319 from by repeat (first | (with_reducible first | exact HI311.out | apply IsS75.alloc | apply IsS75.drewN | apply IsS75.drew | apply IsS75.set_1 | apply IsS75.set_2 | refine IsS75.far ?_ NB311_306.out _ | refine IsS75.far ?_ NB311_307.out _) | exact HI311.out))) : gb320 ≠ g311)); replace HI311 := Aside0.mk (IsS75.below (by repeat (first | (with_reducible first | exact HI311.out | apply IsS75.alloc | apply IsS75.drewN | apply IsS75.drew | apply IsS75.set_1 | apply IsS75.set_2 | refine IsS75.far ?_ NB311_306.out _ | refine IsS75.far ?_ NB311_307.out _) | exact HI311.out)) hb); clear hb hbox hg; have hnb12 := NB320_306.out; have hnc12 := NB306_320.out; have hnb13 := NB320_307.out; have hnc13 := NB307_320.out; have hnb14 := NB320_311.out; have hnc14 := NB311_320.out; obtain ⟨hcz15_0, hcz15_1, hcz15_2, hcz15_3, hfz15_0, hfz15_1, hfz15_2, hfz15_3⟩ := box4_ BK320.out; obtain ⟨Ao16, co16, eo16⟩ := Kd.R_slice HO317.out; subst eo16) | ((with_reducible refine gate_callee (f := 53) rfl ?_); refine goesL_ (some 11) rfl rfl Try.func53 (by kernel_rfl) rfl #[.pointer (some ⟨g311, 0, none⟩), .int .i64 2] rfl ma_ ?_; (with_reducible refine (spec_l1Once.calls g311 t308 t318 t319 2 true t322 t323 w _ ?side1 ?side2 A4.out).mono ?_); (case side1 => repeat (first | (with_reducible first | exact HI311.out | apply IsS75.alloc | apply IsS75.drewN | apply IsS75.drew | apply IsS75.set_1 | apply IsS75.set_2 | refine IsS75.far ?_ NB311_306.out _ | refine IsS75.far ?_ NB311_307.out _ | refine IsS75.far ?_ NB311_320.out _) | exact HI311.out)); (case side2 => repeat (first | (with_reducible first | exact HB.out | apply below_alloc | apply pw_below_drewN | apply below_drew1 | refine below_set ?_ (IsS75.ge HI311.out) | refine below_set ?_ GE306.out | refine below_set ?_ GE307.out | refine below_set ?_ GE320.out) | exact HB.out)); rintro e w17 ⟨rfl, hi, hb, hk⟩; refine ⟨_, rfl, ?_⟩; replace BK306 := Aside0.mk (KeepBut.blk hk (g' := gb306) (o := .cells #[.int .i64 0, .string (⟨#[]⟩ : ByteArray), .int .i64 0, .slice none 0 0] 29 (0, 0)) (by (with_reducible repeat (first | refine blk_drewN ?_ _ | refine blk_drew ?_ | refine blk_alloc ?_ _)); refine blk_far ?_ NB306_320.out _; (with_reducible repeat (first | refine blk_drewN ?_ _ | refine blk_drew ?_ | refine blk_alloc ?_ _)); refine blk_far ?_ NB306_320.out _; (with_reducible repeat (first | refine blk_drewN ?_ _ | refine blk_drew ?_ | refine blk_alloc ?_ _)); refine blk_far ?_ NB306_320.out _; (with_reducible repeat (first | refine blk_drewN ?_ _ | refine blk_drew ?_ | refine blk_alloc ?_ _)); refine blk_far ?_ NB306_320.out _; (with_reducible repeat (first | refine blk_drewN ?_ _ | refine blk_drew ?_ | refine blk_alloc ?_ _)); exact BK306.out) NB306_311.out (by simp)); replace BK307 := Aside0.mk (KeepBut.blk hk (g' := gb307) (o := .cells #[.int .i64 0, .string (⟨#[]⟩ : ByteArray), .int .i64 0, .slice none 0 0] 29 (0, 0)) (by (with_reducible repeat (first | refine blk_drewN ?_ _ | refine blk_drew ?_ | refine blk_alloc ?_ _)); refine blk_far ?_ NB307_320.out _; (with_reducible repeat (first | refine blk_drewN ?_ _ | refine blk_drew ?_ | refine blk_alloc ?_ _)); refine blk_far ?_ NB307_320.out _; (with_reducible repeat (first | refine blk_drewN ?_ _ | refine blk_drew ?_ | refine blk_alloc ?_ _)); refine blk_far ?_ NB307_320.out _; (with_reducible repeat (first | refine blk_drewN ?_ _ | refine blk_drew ?_ | refine blk_alloc ?_ _)); refine blk_far ?_ NB307_320.out _; (with_reducible repeat (first | refine blk_drewN ?_ _ | refine blk_drew ?_ | refine blk_alloc ?_ _)); exact BK307.out) NB307_311.out (by simp)); replace HO317 := Aside0.mk (Kd.R_mono (Kd.R_keep (IsS75.apart (show IsS75 w _ g311 t308 t318 t319 from by repeat (first | (with_reducible first | exact HI311.out | apply IsS75.alloc | apply IsS75.drewN | apply IsS75.drew | apply IsS75.set_1 | apply IsS75.set_2 | refine IsS75.far ?_ NB311_306.out _ | refine IsS75.far ?_ NB311_307.out _ | refine IsS75.far ?_ NB311_320.out _) | exact HI311.out)) (by (with_reducible repeat (first | apply Kd.R_alloc | apply Kd.R_drewN | apply Kd.R_drew)); exact (Kd.R_mono (Kd.R_far (p := ⟨gb320, 3, none⟩) (Kd.R_far (p := ⟨gb320, 2, none⟩) (Kd.R_far (p := ⟨gb320, 1, none⟩) (Kd.R_far (p := ⟨gb320, 0, none⟩) (Kd.R_mono HO317.out (fun k_ hk => (⟨hk, hk.2⟩ : _ ∧ k_ ≠ gb320))) (fun _ hk => hk.2) (.int .i64 t312)) (fun _ hk => hk.2) (.string t313)) (fun _ hk => hk.2) (.int .i64 t314)) (fun _ hk => hk.2) (.slice Ao16 t315.length co16)) (fun _ h_ => h_.1))) (by decide)) hk (fun _ h => h.2)) (fun _ h => h.1)); replace BK320 := Aside0.mk (KeepBut.blk hk (g' := gb320) (o := .cells #[.int .i64 t312, .string t313, .int .i64 t314, .slice Ao16 t315.length co16] 29 (0, 0)) (by (with_reducible repeat (first | refine blk_drewN ?_ _ | refine blk_drew ?_ | refine blk_alloc ?_ _)); refine blk_put (cs := #[.int .i64 t312, .string t313, .int .i64 t314, .slice none 0 0]) ?_ 3 _ rfl; (with_reducible repeat (first | refine blk_drewN ?_ _ | refine blk_drew ?_ | refine blk_alloc ?_ _)); refine blk_put (cs := #[.int .i64 t312, .string t313, .int .i64 0, .slice none 0 0]) ?_ 2 _ rfl; (with_reducible repeat (first | refine blk_drewN ?_ _ | refine blk_drew ?_ | refine blk_alloc ?_ _)); refine blk_put (cs := #[.int .i64 t312, .string (⟨#[]⟩ : ByteArray), .int .i64 0, .slice none 0 0]) ?_ 1 _ rfl; (with_reducible repeat (first | refine blk_drewN ?_ _ | refine blk_drew ?_ | refine blk_alloc ?_ _)); refine blk_put (cs := #[.int .i64 0, .string (⟨#[]⟩ : ByteArray), .int .i64 0, .slice none 0 0]) ?_ 0 _ rfl; (with_reducible repeat (first | refine blk_drewN ?_ _ | refine blk_drew ?_ | refine blk_alloc ?_ _)); exact BK320.out) NB320_311.out (by simp)); replace HB := Aside0.mk (hb); replace HI311 := Aside0.mk (hi); (try clear hb); (try clear hb2); (try clear hk); (try clear hi)))
  replace HO317 := Aside0.mk (Kd.R_drew HO317.out)
  replace BK306 := Aside0.mk (blk_drew BK306.out)
  replace BK307 := Aside0.mk (blk_drew BK307.out)
  replace BK320 := Aside0.mk (blk_drew BK320.out)
  replace HI311 := Aside0.mk (IsS75.drew HI311.out)
  replace HB := Aside0.mk (below_drew1 HB.out)
  refine start_ (n := 5) (S := fun w' => w'.cell? ⟨gb320, 0, none⟩ = some (.int .i64 t312) ∧ w'.cell? ⟨gb320, 1, none⟩ = some (.string t313) ∧ w'.cell? ⟨gb320, 2, none⟩ = some (.int .i64 t314) ∧ w'.cell? ⟨gb320, 3, none⟩ = some (.slice Ao16 t315.length co16)) (ds := []) #[false, false, false, false, false] (by kernel_rfl) rfl rfl ⟨(blk_cell BK320.out 0).trans rfl, (blk_cell BK320.out 1).trans rfl, (blk_cell BK320.out 2).trans rfl, (blk_cell BK320.out 3).trans rfl⟩ (fun hHeld => ?_)
  generalize w17.drew = w18 at HO317 BK306 BK307 BK320 HI311 HB hHeld ⊢
  refine take_ (i := 0) (N := some 12) (v := ?_) (a' := ?_) #[true, false, false, false, false] rfl rfl (by kernel_rfl) (fun _ _ _ h => h) (Or.inl ⟨by rfl, ?_⟩) hHeld ?_ ?_
  rotate_left
  ·rintro w' ⟨s0, s1, s2, s3⟩
   go_simp
   with_reducible rfl
  rotate_left
  ·simp only [Act.put, List.setIfInBounds_toArray, List.set_cons_zero, List.set_cons_succ, i64_w, i32_w]
   rfl
  refine take_ (i := 1) (N := some 13) (v := ?_) (a' := ?_) #[true, true, false, false, false] rfl rfl (by kernel_rfl) (fun _ _ _ h => h) (Or.inl ⟨by rfl, ?_⟩) hHeld ?_ ?_
  rotate_left
  ·rintro w' ⟨s0, s1, s2, s3⟩
   go_simp
   with_reducible rfl
  rotate_left
  ·simp only [Act.put, List.setIfInBounds_toArray, List.set_cons_zero, List.set_cons_succ, i64_w, i32_w]
   rfl
  refine one_ (i := 2) (N := some 14) #[true, true, true, false, false] rfl rfl (by kernel_rfl) (by decide) (fun K hK => ?_)
  refine goes_ Try.func55 (by kernel_rfl) rfl #[.agg #[.int .i64 t312, .string t313, .int .i64 t314, .slice Ao16 t315.length co16]] (by rfl) rfl rfl ma_ ?_
  with_reducible refine (spec_l7Copy.calls k t312 t313 t314 _ _ t315 t324 t325 t326 t327 _ ?side1 ?side2 A6.out).mono ?_
  (case side1 => exact C_ (Kd.R_reads' HO317.out).2.2)
  (case side2 => exact (Kd.R_reads' HO317.out).2.1)
  rintro e w19 ⟨v328, rfl, ho0, hb⟩
  refine ⟨_, rfl, ?_⟩
  have HO329 := Aside0.mk (Kd.R_lower (Kd.R_newB (Kd.R_newB (Kd.R_newB (Kd.R_new' ho0 (Kd.R_lt (R_ HO317.out))) (g := gb306) (o := .cells #[.int .i64 0, .string (⟨#[]⟩ : ByteArray), .int .i64 0, .slice none 0 0] 29 (0, 0)) (K_ BK306.out)) (g := gb307) (o := .cells #[.int .i64 0, .string (⟨#[]⟩ : ByteArray), .int .i64 0, .slice none 0 0] 29 (0, 0)) (K_ BK307.out)) (g := gb320) (o := .cells #[.int .i64 t312, .string t313, .int .i64 t314, .slice Ao16 t315.length co16] 29 (0, 0)) (K_ BK320.out)) (below_size (by repeat (first | (with_reducible first | exact HB.out | apply below_alloc | apply pw_below_drewN | apply below_drew1 | refine below_set ?_ (IsS75.ge HI311.out) | refine below_set ?_ GE306.out | refine below_set ?_ GE307.out | refine below_set ?_ GE320.out) | exact HB.out))))
  replace HO317 := Aside0.mk (Kd.R_elder' (R_ HO317.out) (Kd.R_base ho0) hb)
  replace BK306 := Aside0.mk (blk_below (K_ BK306.out) hb)
  replace BK307 := Aside0.mk (blk_below (K_ BK307.out) hb)
  replace BK320 := Aside0.mk (blk_below (K_ BK320.out) hb)
  replace HB := Aside0.mk (below_step (by repeat (first | (with_reducible first | exact HB.out | apply below_alloc | apply pw_below_drewN | apply below_drew1 | refine below_set ?_ (IsS75.ge HI311.out) | refine below_set ?_ GE306.out | refine below_set ?_ GE307.out | refine below_set ?_ GE320.out) | exact HB.out)) hb)
  replace HI311 := Aside0.mk (IsS75.below (by repeat (first | (with_reducible first | exact HI311.out | apply IsS75.alloc | apply IsS75.drewN | apply IsS75.drew | apply IsS75.set_1 | apply IsS75.set_2 | refine IsS75.far ?_ NB311_306.out _ | refine IsS75.far ?_ NB311_307.out _ | refine IsS75.far ?_ NB311_320.out _) | exact HI311.out)) hb)
  (try clear hb)
  (try clear hb2)
  (try clear hk)
  (try clear hi)
  (try clear ho0)
  obtain ⟨Ao27, co27, eo27⟩ := Kd.R_slice HO329.out
  (first | subst eo27 | (injection eo27 with f1_ f2_ f3_; have f4_ := f1_.symm; have f5_ := f3_.symm; clear f1_ f2_ f3_; subst f4_; subst f5_))
  refine hK.out _ _ ⟨(blk_cell BK320.out 0).trans rfl, (blk_cell BK320.out 1).trans rfl, (blk_cell BK320.out 2).trans rfl, (blk_cell BK320.out 3).trans rfl⟩ (fun hHeld => ?_)
  clear hK K
  refine norm_ (a' := ?_) ?_ ?_
  rotate_left
  ·show Act.put _ (some 14) _ = _
   simp only [Act.put, List.setIfInBounds_toArray, List.set_cons_zero, List.set_cons_succ, i64_w, i32_w]
   rfl
  refine one_ (i := 3) (N := none) #[true, true, true, true, false] rfl rfl (by kernel_rfl) (by decide) (fun K hK => ?_)
  have hs20 : w19.cell? ⟨gb306, 0, none⟩ = some (.int .i64 0) := (blk_cell BK306.out 0).trans rfl
  have hfs20 := blk_frozen BK306.out 0
  have hns20_1 := NB307_306.out
  have hns20_2 := NB320_306.out
  have hms20_1 := NB306_307.out
  have hms20_2 := NB306_320.out
  have hs21 : w19.cell? ⟨gb306, 1, none⟩ = some (.string (⟨#[]⟩ : ByteArray)) := (blk_cell BK306.out 1).trans rfl
  have hfs21 := blk_frozen BK306.out 1
  have hns21_1 := NB307_306.out
  have hns21_2 := NB320_306.out
  have hms21_1 := NB306_307.out
  have hms21_2 := NB306_320.out
  have hs22 : w19.cell? ⟨gb306, 2, none⟩ = some (.int .i64 0) := (blk_cell BK306.out 2).trans rfl
  have hfs22 := blk_frozen BK306.out 2
  have hns22_1 := NB307_306.out
  have hns22_2 := NB320_306.out
  have hms22_1 := NB306_307.out
  have hms22_2 := NB306_320.out
  have hs23 : w19.cell? ⟨gb306, 3, none⟩ = some (.slice none 0 0) := (blk_cell BK306.out 3).trans rfl
  have hfs23 := blk_frozen BK306.out 3
  have hns23_1 := NB307_306.out
  have hns23_2 := NB320_306.out
  have hms23_1 := NB306_307.out
  have hms23_2 := NB306_320.out
  refine skip_ (w1 := ?_) (by rfl) rfl ?_ ?_
  rotate_left
  ·go_simp
   rfl
  refine hK.out _ _ ⟨((cell_far (p := ⟨gb306, _, none⟩) NB320_306.out _).trans (((cell_far (p := ⟨gb306, _, none⟩) NB320_306.out _).trans (((cell_far (p := ⟨gb306, _, none⟩) NB320_306.out _).trans (((cell_far (p := ⟨gb306, _, none⟩) NB320_306.out _).trans (hHeld.1)))))))), ((cell_far (p := ⟨gb306, _, none⟩) NB320_306.out _).trans (((cell_far (p := ⟨gb306, _, none⟩) NB320_306.out _).trans (((cell_far (p := ⟨gb306, _, none⟩) NB320_306.out _).trans (((cell_far (p := ⟨gb306, _, none⟩) NB320_306.out _).trans (hHeld.2.1)))))))), ((cell_far (p := ⟨gb306, _, none⟩) NB320_306.out _).trans (((cell_far (p := ⟨gb306, _, none⟩) NB320_306.out _).trans (((cell_far (p := ⟨gb306, _, none⟩) NB320_306.out _).trans (((cell_far (p := ⟨gb306, _, none⟩) NB320_306.out _).trans (hHeld.2.2.1)))))))), ((cell_far (p := ⟨gb306, _, none⟩) NB320_306.out _).trans (((cell_far (p := ⟨gb306, _, none⟩) NB320_306.out _).trans (((cell_far (p := ⟨gb306, _, none⟩) NB320_306.out _).trans (((cell_far (p := ⟨gb306, _, none⟩) NB320_306.out _).trans (hHeld.2.2.2))))))))⟩ (fun hHeld => ?_)
  clear hK K
  refine one_ (i := 4) (N := none) #[true, true, true, true, true] rfl rfl (by kernel_rfl) (by decide) (fun K hK => ?_)
  have hs24 : w19.cell? ⟨gb307, 0, none⟩ = some (.int .i64 0) := (blk_cell BK307.out 0).trans rfl
  have hfs24 := blk_frozen BK307.out 0
  have hns24_0 := NB306_307.out
  have hns24_2 := NB320_307.out
  have hms24_0 := NB307_306.out
  have hms24_2 := NB307_320.out
  have hs25 : w19.cell? ⟨gb307, 1, none⟩ = some (.string (⟨#[]⟩ : ByteArray)) := (blk_cell BK307.out 1).trans rfl
  have hfs25 := blk_frozen BK307.out 1
  have hns25_0 := NB306_307.out
  have hns25_2 := NB320_307.out
  have hms25_0 := NB307_306.out
  have hms25_2 := NB307_320.out
  have hs26 : w19.cell? ⟨gb307, 2, none⟩ = some (.int .i64 0) := (blk_cell BK307.out 2).trans rfl
  have hfs26 := blk_frozen BK307.out 2
  have hns26_0 := NB306_307.out
  have hns26_2 := NB320_307.out
  have hms26_0 := NB307_306.out
  have hms26_2 := NB307_320.out
  have hs28 : w19.cell? ⟨gb307, 3, none⟩ = some (.slice none 0 0) := (blk_cell BK307.out 3).trans rfl
  have hfs28 := blk_frozen BK307.out 3
  have hns28_0 := NB306_307.out
  have hns28_2 := NB320_307.out
  have hms28_0 := NB307_306.out
  have hms28_2 := NB307_320.out
  refine skip_ (w1 := ?_) (by rfl) rfl ?_ ?_
  rotate_left
  ·go_simp
   rfl
  refine hK.out _ _ ⟨((cell_far (p := ⟨gb307, _, none⟩) NB320_307.out _).trans (((cell_far (p := ⟨gb307, _, none⟩) NB320_307.out _).trans (((cell_far (p := ⟨gb307, _, none⟩) NB320_307.out _).trans (((cell_far (p := ⟨gb307, _, none⟩) NB320_307.out _).trans (hHeld.1)))))))), ((cell_far (p := ⟨gb307, _, none⟩) NB320_307.out _).trans (((cell_far (p := ⟨gb307, _, none⟩) NB320_307.out _).trans (((cell_far (p := ⟨gb307, _, none⟩) NB320_307.out _).trans (((cell_far (p := ⟨gb307, _, none⟩) NB320_307.out _).trans (hHeld.2.1)))))))), ((cell_far (p := ⟨gb307, _, none⟩) NB320_307.out _).trans (((cell_far (p := ⟨gb307, _, none⟩) NB320_307.out _).trans (((cell_far (p := ⟨gb307, _, none⟩) NB320_307.out _).trans (((cell_far (p := ⟨gb307, _, none⟩) NB320_307.out _).trans (hHeld.2.2.1)))))))), ((cell_far (p := ⟨gb307, _, none⟩) NB320_307.out _).trans (((cell_far (p := ⟨gb307, _, none⟩) NB320_307.out _).trans (((cell_far (p := ⟨gb307, _, none⟩) NB320_307.out _).trans (((cell_far (p := ⟨gb307, _, none⟩) NB320_307.out _).trans (hHeld.2.2.2))))))))⟩ (fun hHeld => ?_)
  clear hK K
  refine done_ (by kernel_rfl) ?_
  try go_wp2
  refine bodyPost_ret (results_cc rfl _ _ gb306 gb307 29 29 #[.int .i64 t312, .string t313, .int .i64 t314, .slice Ao16 t315.length co16] #[.int .i64 t324, .string t325, .int .i64 t326, .slice Ao27 t327.length co27] (0, 0) (0, 0) _ _ rfl (by (with_reducible repeat (first | refine blk_drewN ?_ _ | refine blk_drew ?_ | refine blk_alloc ?_ _)); refine blk_far ?_ NB306_307.out _; (with_reducible repeat (first | refine blk_drewN ?_ _ | refine blk_drew ?_ | refine blk_alloc ?_ _)); refine blk_far ?_ NB306_307.out _; (with_reducible repeat (first | refine blk_drewN ?_ _ | refine blk_drew ?_ | refine blk_alloc ?_ _)); refine blk_far ?_ NB306_307.out _; (with_reducible repeat (first | refine blk_drewN ?_ _ | refine blk_drew ?_ | refine blk_alloc ?_ _)); refine blk_far ?_ NB306_307.out _; (with_reducible repeat (first | refine blk_drewN ?_ _ | refine blk_drew ?_ | refine blk_alloc ?_ _)); refine blk_put (cs := #[.int .i64 t312, .string t313, .int .i64 t314, .slice none 0 0]) ?_ 3 _ rfl; (with_reducible repeat (first | refine blk_drewN ?_ _ | refine blk_drew ?_ | refine blk_alloc ?_ _)); refine blk_put (cs := #[.int .i64 t312, .string t313, .int .i64 0, .slice none 0 0]) ?_ 2 _ rfl; (with_reducible repeat (first | refine blk_drewN ?_ _ | refine blk_drew ?_ | refine blk_alloc ?_ _)); refine blk_put (cs := #[.int .i64 t312, .string (⟨#[]⟩ : ByteArray), .int .i64 0, .slice none 0 0]) ?_ 1 _ rfl; (with_reducible repeat (first | refine blk_drewN ?_ _ | refine blk_drew ?_ | refine blk_alloc ?_ _)); refine blk_put (cs := #[.int .i64 0, .string (⟨#[]⟩ : ByteArray), .int .i64 0, .slice none 0 0]) ?_ 0 _ rfl; (with_reducible repeat (first | refine blk_drewN ?_ _ | refine blk_drew ?_ | refine blk_alloc ?_ _)); exact BK306.out) Try.underlying29 rfl (by kernel_rfl) rfl (by (with_reducible repeat (first | refine blk_drewN ?_ _ | refine blk_drew ?_ | refine blk_alloc ?_ _)); refine blk_put (cs := #[.int .i64 t324, .string t325, .int .i64 t326, .slice none 0 0]) ?_ 3 _ rfl; (with_reducible repeat (first | refine blk_drewN ?_ _ | refine blk_drew ?_ | refine blk_alloc ?_ _)); refine blk_put (cs := #[.int .i64 t324, .string t325, .int .i64 0, .slice none 0 0]) ?_ 2 _ rfl; (with_reducible repeat (first | refine blk_drewN ?_ _ | refine blk_drew ?_ | refine blk_alloc ?_ _)); refine blk_put (cs := #[.int .i64 t324, .string (⟨#[]⟩ : ByteArray), .int .i64 0, .slice none 0 0]) ?_ 1 _ rfl; (with_reducible repeat (first | refine blk_drewN ?_ _ | refine blk_drew ?_ | refine blk_alloc ?_ _)); refine blk_put (cs := #[.int .i64 0, .string (⟨#[]⟩ : ByteArray), .int .i64 0, .slice none 0 0]) ?_ 0 _ rfl; (with_reducible repeat (first | refine blk_drewN ?_ _ | refine blk_drew ?_ | refine blk_alloc ?_ _)); refine blk_far ?_ NB307_306.out _; (with_reducible repeat (first | refine blk_drewN ?_ _ | refine blk_drew ?_ | refine blk_alloc ?_ _)); refine blk_far ?_ NB307_306.out _; (with_reducible repeat (first | refine blk_drewN ?_ _ | refine blk_drew ?_ | refine blk_alloc ?_ _)); refine blk_far ?_ NB307_306.out _; (with_reducible repeat (first | refine blk_drewN ?_ _ | refine blk_drew ?_ | refine blk_alloc ?_ _)); refine blk_far ?_ NB307_306.out _; (with_reducible repeat (first | refine blk_drewN ?_ _ | refine blk_drew ?_ | refine blk_alloc ?_ _)); exact BK307.out) Try.underlying29 rfl (by kernel_rfl)) rfl ?_
  exact ⟨_, _, er_, by (with_reducible repeat (first | apply Kd.R_alloc | apply Kd.R_drewN | apply Kd.R_drew)); exact Kd.R_mono (Kd.R_far (p := ⟨gb307, 3, none⟩) (Kd.R_far (p := ⟨gb307, 2, none⟩) (Kd.R_far (p := ⟨gb307, 1, none⟩) (Kd.R_far (p := ⟨gb307, 0, none⟩) (Kd.R_far (p := ⟨gb306, 3, none⟩) (Kd.R_far (p := ⟨gb306, 2, none⟩) (Kd.R_far (p := ⟨gb306, 1, none⟩) (Kd.R_far (p := ⟨gb306, 0, none⟩) (Kd.R_mono (Kd.R_mono HO317.out (fun k_ hk => (⟨hk, hk.1.1.1.2⟩ : _ ∧ k_ ≠ gb306))) (fun k_ hk => (⟨hk, hk.1.1.1.2⟩ : _ ∧ k_ ≠ gb307))) (fun _ hk => hk.1.2) (.int .i64 t312)) (fun _ hk => hk.1.2) (.string t313)) (fun _ hk => hk.1.2) (.int .i64 t314)) (fun _ hk => hk.1.2) (.slice Ao16 t315.length co16)) (fun _ hk => hk.2) (.int .i64 t324)) (fun _ hk => hk.2) (.string t325)) (fun _ hk => hk.2) (.int .i64 t326)) (fun _ hk => hk.2) (.slice Ao27 t327.length co27)) (fun _ hk => hk.1.1.2), by (with_reducible repeat (first | apply Kd.R_alloc | apply Kd.R_drewN | apply Kd.R_drew)); exact Kd.R_mono (Kd.R_far (p := ⟨gb307, 3, none⟩) (Kd.R_far (p := ⟨gb307, 2, none⟩) (Kd.R_far (p := ⟨gb307, 1, none⟩) (Kd.R_far (p := ⟨gb307, 0, none⟩) (Kd.R_far (p := ⟨gb306, 3, none⟩) (Kd.R_far (p := ⟨gb306, 2, none⟩) (Kd.R_far (p := ⟨gb306, 1, none⟩) (Kd.R_far (p := ⟨gb306, 0, none⟩) (Kd.R_mono (Kd.R_mono HO329.out (fun k_ hk => (⟨hk, hk.1.1.2⟩ : _ ∧ k_ ≠ gb306))) (fun k_ hk => (⟨hk, hk.1.1.2⟩ : _ ∧ k_ ≠ gb307))) (fun _ hk => hk.1.2) (.int .i64 t312)) (fun _ hk => hk.1.2) (.string t313)) (fun _ hk => hk.1.2) (.int .i64 t314)) (fun _ hk => hk.1.2) (.slice Ao16 t315.length co16)) (fun _ hk => hk.2) (.int .i64 t324)) (fun _ hk => hk.2) (.string t325)) (fun _ hk => hk.2) (.int .i64 t326)) (fun _ hk => hk.2) (.slice Ao27 t327.length co27)) (fun _ hk => hk.1.1.1.1.1.2), by repeat (first | (with_reducible first | exact HB.out | apply below_alloc | apply pw_below_drewN | apply below_drew1 | refine below_set ?_ (IsS75.ge HI311.out) | refine below_set ?_ GE306.out | refine below_set ?_ GE307.out | refine below_set ?_ GE320.out) | exact HB.out)⟩
 ·replace c5 := Bool.eq_false_iff.mpr c5
  subst c5
  have H1 : ((spec_l7Bent.f k t308 t322 t323).bind fun bt330 => (some (t312, t313, t314, t315, bt330.1, bt330.2.1, bt330.2.2.1, bt330.2.2.2.1))) = some (r1, r2, r3, r4, r5, r6, r7, r8) := by rw [if_neg (show ¬ (false = true) by decide)] at H; exact H
  clear H
  have H := H1
  clear H1
  replace H := Option.bind_eq_some_iff.mp H
  obtain ⟨⟨t330, t331, t332, t333, t336, t337⟩, A290, H⟩ := H
  replace H : (some (t312, t313, t314, t315, t330, t331, t332, t333)) = some (r1, r2, r3, r4, r5, r6, r7, r8) := H
  have A29 := Aside0.mk A290
  clear A290
  simp only [Option.some.injEq, Prod.mk.injEq] at H
  obtain ⟨rfl, rfl, rfl, rfl, rfl, rfl, rfl, rfl⟩ := H
  go_enter Try.func30, Try.ntmps30
  try go_wp2_with (first | ((with_reducible refine gate_dst (N := 2) rfl ?_); refine box_event ?hg (N := 2) ?hd (cs := #[.int .i64 0, .string (⟨#[]⟩ : ByteArray), .int .i64 0, .slice none 0 0]) (t := 29) ?hr ?_; (case hd => rfl); (case hg => rfl); (case hr => first | (go_simp; done) | (go_simp; rfl)); intro gb306 hg w30 hbox hb; have BK306 := Aside0.mk (hbox); have GW306 := Aside0.mk ((by rw [hg]; exact (below_size (B0_ HB.out)) : w.heap.size ≤ gb306)); have GE306 := Aside0.mk ((by rw [hg]; exact (below_size (B0_ HB.out)) : w.heap.size ≤ gb306)); replace HB := Aside0.mk (below_step (B0_ HB.out) hb); clear hb hbox hg) | ((with_reducible refine gate_dst (N := 3) rfl ?_); refine box_event ?hg (N := 3) ?hd (cs := #[.int .i64 0, .string (⟨#[]⟩ : ByteArray), .int .i64 0, .slice none 0 0]) (t := 29) ?hr ?_; (case hd => rfl); (case hg => rfl); (case hr => first | (go_simp; done) | (go_simp; rfl)); intro gb307 hg w31 hbox hb; have BK307 := Aside0.mk (hbox); have GW307 := Aside0.mk ((by rw [hg]; exact (below_size (B1_ HB.out GE306.out)) : w.heap.size ≤ gb307)); have GE307 := Aside0.mk ((by rw [hg]; exact (below_size (B1_ HB.out GE306.out)) : w.heap.size ≤ gb307)); replace HB := Aside0.mk (below_step (B1_ HB.out GE306.out) hb); have NB306_307 := Aside0.mk ((by rw [hg]; exact Nat.ne_of_lt (blk_lt (K_ BK306.out)) : gb306 ≠ gb307)); have NB307_306 := Aside0.mk ((by rw [hg]; exact Nat.ne_of_gt (blk_lt (K_ BK306.out)) : gb307 ≠ gb306)); replace BK306 := Aside0.mk (blk_below (K_ BK306.out) hb); clear hb hbox hg) | ((with_reducible refine gate_callee (f := 51) rfl ?_); refine goesL_ (some 7) rfl rfl Try.func51 (by kernel_rfl) rfl #[.slice A0 l0.length c0] rfl ma_ ?_; (with_reducible refine (spec_l1New.calls k _ _ l0 t308 t309 t310 w _ ?side1 ?side2 ?side3 A2.out).mono ?_); (case side1 => repeat (first | (with_reducible first | exact HB.out | apply below_alloc | apply pw_below_drewN | apply below_drew1 | refine below_set ?_ GE306.out | refine below_set ?_ GE307.out) | exact HB.out)); (case side2 => exact HR0.out); (case side3 => exact HC0.out); rintro e w32 ⟨g311, rfl, hi, hb, hb2⟩; refine ⟨_, rfl, ?_⟩; replace HB := Aside0.mk (hb); have HI311 := Aside0.mk (hi); have NB311_306 := Aside0.mk (IsS75.ne_blk hi (blk_below (K_ BK306.out) hb2) (by decide)); have NB306_311 := Aside0.mk (Ne.symm (IsS75.ne_blk hi (blk_below (K_ BK306.out) hb2) (by decide))); replace BK306 := Aside0.mk (blk_below (K_ BK306.out) hb2); have NB311_307 := Aside0.mk (IsS75.ne_blk hi (blk_below (K_ BK307.out) hb2) (by decide)); have NB307_311 := Aside0.mk (Ne.symm (IsS75.ne_blk hi (blk_below (K_ BK307.out) hb2) (by decide))); replace BK307 := Aside0.mk (blk_below (K_ BK307.out) hb2); (try clear hb); (try clear hb2); (try clear hk); (try clear hi)) | ((with_reducible refine gate_callee (f := 52) rfl ?_); refine goesL_ (some 9) rfl rfl Try.func52 (by kernel_rfl) rfl #[.pointer (some ⟨g311, 0, none⟩)] rfl ma_ ?_; (with_reducible refine (spec_l7Bent.calls k g311 t308 t309 t310 t312 t313 t314 t315 t318 t319 w _ ?side1 ?side2 A3.out).mono ?_); (case side1 => repeat (first | (with_reducible first | exact HI311.out | apply IsS75.alloc | apply IsS75.drewN | apply IsS75.drew | apply IsS75.set_1 | apply IsS75.set_2 | refine IsS75.far ?_ NB311_306.out _ | refine IsS75.far ?_ NB311_307.out _) | exact HI311.out)); (case side2 => repeat (first | (with_reducible first | exact HB.out | apply below_alloc | apply pw_below_drewN | apply below_drew1 | refine below_set ?_ (IsS75.ge HI311.out) | refine below_set ?_ GE306.out | refine below_set ?_ GE307.out) | exact HB.out)); rintro e w33 ⟨v316, rfl, ho0, hi, hb, hk⟩; refine ⟨_, rfl, ?_⟩; have HO317 := Aside0.mk (Kd.R_lower (Kd.R_newB (Kd.R_newB ho0 (g := gb306) (o := .cells #[.int .i64 0, .string (⟨#[]⟩ : ByteArray), .int .i64 0, .slice none 0 0] 29 (0, 0)) (K_ BK306.out)) (g := gb307) (o := .cells #[.int .i64 0, .string (⟨#[]⟩ : ByteArray), .int .i64 0, .slice none 0 0] 29 (0, 0)) (K_ BK307.out)) (below_size (by repeat (first | (with_reducible first | exact HB.out | apply below_alloc | apply pw_below_drewN | apply below_drew1 | refine below_set ?_ (IsS75.ge HI311.out) | refine below_set ?_ GE306.out | refine below_set ?_ GE307.out) | exact HB.out)))); replace BK306 := Aside0.mk (KeepBut.blk hk (g' := gb306) (o := .cells #[.int .i64 0, .string (⟨#[]⟩ : ByteArray), .int .i64 0, .slice none 0 0] 29 (0, 0)) (K_ BK306.out) NB306_311.out (by simp)); replace BK307 := Aside0.mk (KeepBut.blk hk (g' := gb307) (o := .cells #[.int .i64 0, .string (⟨#[]⟩ : ByteArray), .int .i64 0, .slice none 0 0] 29 (0, 0)) (K_ BK307.out) NB307_311.out (by simp)); replace HB := Aside0.mk (hb); replace HI311 := Aside0.mk (hi); (try clear hb); (try clear hb2); (try clear hk); (try clear hi); (try clear ho0)) | ((with_reducible refine gate_dst (N := 5) rfl ?_); refine box_event ?hg (N := 5) ?hd (cs := #[.int .i64 0, .string (⟨#[]⟩ : ByteArray), .int .i64 0, .slice none 0 0]) (t := 29) ?hr ?_; (case hd => rfl); (case hg => rfl); (case hr => first | (go_simp; done) | (go_simp; rfl)); intro gb320 hg w34 hbox hb; replace HO317 := Aside0.mk (Kd.R_below (Kd.R_elderB (R_ HO317.out) gb320 (Nat.le_of_eq hg.symm)) hb); have BK320 := Aside0.mk (hbox); have GW320 := Aside0.mk ((by rw [hg]; exact (below_size (by repeat (first | (with_reducible first | exact HB.out | apply below_alloc | apply pw_below_drewN | apply below_drew1 | refine below_set ?_ (IsS75.ge HI311.out) | refine below_set ?_ GE306.out | refine below_set ?_ GE307.out) | exact HB.out))) : w.heap.size ≤ gb320)); have GE320 := Aside0.mk ((by rw [hg]; exact (below_size (by repeat (first | (with_reducible first | exact HB.out | apply below_alloc | apply pw_below_drewN | apply below_drew1 | refine below_set ?_ (IsS75.ge HI311.out) | refine below_set ?_ GE306.out | refine below_set ?_ GE307.out) | exact HB.out))) : w.heap.size ≤ gb320)); replace HB := Aside0.mk (below_step (by repeat (first | (with_reducible first | exact HB.out | apply below_alloc | apply pw_below_drewN | apply below_drew1 | refine below_set ?_ (IsS75.ge HI311.out) | refine below_set ?_ GE306.out | refine below_set ?_ GE307.out) | exact HB.out)) hb); have NB306_320 := Aside0.mk ((by rw [hg]; exact Nat.ne_of_lt (blk_lt (K_ BK306.out)) : gb306 ≠ gb320)); have NB320_306 := Aside0.mk ((by rw [hg]; exact Nat.ne_of_gt (blk_lt (K_ BK306.out)) : gb320 ≠ gb306)); replace BK306 := Aside0.mk (blk_below (K_ BK306.out) hb); have NB307_320 := Aside0.mk ((by rw [hg]; exact Nat.ne_of_lt (blk_lt (K_ BK307.out)) : gb307 ≠ gb320)); have NB320_307 := Aside0.mk ((by rw [hg]; exact Nat.ne_of_gt (blk_lt (K_ BK307.out)) : gb320 ≠ gb307)); replace BK307 := Aside0.mk (blk_below (K_ BK307.out) hb); have NB311_320 := Aside0.mk ((by rw [hg]; exact Nat.ne_of_lt (IsS75.lt (show IsS75 w _ g311 t308 t318 t319 from by repeat (first | (with_reducible first | exact HI311.out | apply IsS75.alloc | apply IsS75.drewN | apply IsS75.drew | apply IsS75.set_1 | apply IsS75.set_2 | refine IsS75.far ?_ NB311_306.out _ | refine IsS75.far ?_ NB311_307.out _) | exact HI311.out))) : g311 ≠ gb320)); have NB320_311 := Aside0.mk ((by rw [hg]; exact Nat.ne_of_gt (IsS75.lt (show IsS75 w _ g311 t308 t318 t319 from by repeat (first | (with_reducible first | exact HI311.out | apply IsS75.alloc | apply IsS75.drewN | apply IsS75.drew | apply IsS75.set_1 | apply IsS75.set_2 | refine IsS75.far ?_ NB311_306.out _ | refine IsS75.far ?_ NB311_307.out _) | exact HI311.out))) : gb320 ≠ g311)); replace HI311 := Aside0.mk (IsS75.below (by repeat (first | (with_reducible first | exact HI311.out | apply IsS75.alloc | apply IsS75.drewN | apply IsS75.drew | apply IsS75.set_1 | apply IsS75.set_2 | refine IsS75.far ?_ NB311_306.out _ | refine IsS75.far ?_ NB311_307.out _) | exact HI311.out)) hb); clear hb hbox hg; have hnb35 := NB320_306.out; have hnc35 := NB306_320.out; have hnb36 := NB320_307.out; have hnc36 := NB307_320.out; have hnb37 := NB320_311.out; have hnc37 := NB311_320.out; obtain ⟨hcz38_0, hcz38_1, hcz38_2, hcz38_3, hfz38_0, hfz38_1, hfz38_2, hfz38_3⟩ := box4_ BK320.out; obtain ⟨Ao39, co39, eo39⟩ := Kd.R_slice HO317.out; subst eo39) | ((with_reducible refine gate_callee (f := 53) rfl ?_); refine goesL_ (some 11) rfl rfl Try.func53 (by kernel_rfl) rfl #[.pointer (some ⟨g311, 0, none⟩), .int .i64 2] rfl ma_ ?_; (with_reducible refine (spec_l1Once.calls g311 t308 t318 t319 2 false t322 t323 w _ ?side1 ?side2 A4.out).mono ?_); (case side1 => repeat (first | (with_reducible first | exact HI311.out | apply IsS75.alloc | apply IsS75.drewN | apply IsS75.drew | apply IsS75.set_1 | apply IsS75.set_2 | refine IsS75.far ?_ NB311_306.out _ | refine IsS75.far ?_ NB311_307.out _ | refine IsS75.far ?_ NB311_320.out _) | exact HI311.out)); (case side2 => repeat (first | (with_reducible first | exact HB.out | apply below_alloc | apply pw_below_drewN | apply below_drew1 | refine below_set ?_ (IsS75.ge HI311.out) | refine below_set ?_ GE306.out | refine below_set ?_ GE307.out | refine below_set ?_ GE320.out) | exact HB.out)); rintro e w40 ⟨rfl, hi, hb, hk⟩; refine ⟨_, rfl, ?_⟩; replace BK306 := Aside0.mk (KeepBut.blk hk (g' := gb306) (o := .cells #[.int .i64 0, .string (⟨#[]⟩ : ByteArray), .int .i64 0, .slice none 0 0] 29 (0, 0)) (by (with_reducible repeat (first | refine blk_drewN ?_ _ | refine blk_drew ?_ | refine blk_alloc ?_ _)); refine blk_far ?_ NB306_320.out _; (with_reducible repeat (first | refine blk_drewN ?_ _ | refine blk_drew ?_ | refine blk_alloc ?_ _)); refine blk_far ?_ NB306_320.out _; (with_reducible repeat (first | refine blk_drewN ?_ _ | refine blk_drew ?_ | refine blk_alloc ?_ _)); refine blk_far ?_ NB306_320.out _; (with_reducible repeat (first | refine blk_drewN ?_ _ | refine blk_drew ?_ | refine blk_alloc ?_ _)); refine blk_far ?_ NB306_320.out _; (with_reducible repeat (first | refine blk_drewN ?_ _ | refine blk_drew ?_ | refine blk_alloc ?_ _)); exact BK306.out) NB306_311.out (by simp)); replace BK307 := Aside0.mk (KeepBut.blk hk (g' := gb307) (o := .cells #[.int .i64 0, .string (⟨#[]⟩ : ByteArray), .int .i64 0, .slice none 0 0] 29 (0, 0)) (by (with_reducible repeat (first | refine blk_drewN ?_ _ | refine blk_drew ?_ | refine blk_alloc ?_ _)); refine blk_far ?_ NB307_320.out _; (with_reducible repeat (first | refine blk_drewN ?_ _ | refine blk_drew ?_ | refine blk_alloc ?_ _)); refine blk_far ?_ NB307_320.out _; (with_reducible repeat (first | refine blk_drewN ?_ _ | refine blk_drew ?_ | refine blk_alloc ?_ _)); refine blk_far ?_ NB307_320.out _; (with_reducible repeat (first | refine blk_drewN ?_ _ | refine blk_drew ?_ | refine blk_alloc ?_ _)); refine blk_far ?_ NB307_320.out _; (with_reducible repeat (first | refine blk_drewN ?_ _ | refine blk_drew ?_ | refine blk_alloc ?_ _)); exact BK307.out) NB307_311.out (by simp)); replace HO317 := Aside0.mk (Kd.R_mono (Kd.R_keep (IsS75.apart (show IsS75 w _ g311 t308 t318 t319 from by repeat (first | (with_reducible first | exact HI311.out | apply IsS75.alloc | apply IsS75.drewN | apply IsS75.drew | apply IsS75.set_1 | apply IsS75.set_2 | refine IsS75.far ?_ NB311_306.out _ | refine IsS75.far ?_ NB311_307.out _ | refine IsS75.far ?_ NB311_320.out _) | exact HI311.out)) (by (with_reducible repeat (first | apply Kd.R_alloc | apply Kd.R_drewN | apply Kd.R_drew)); exact (Kd.R_mono (Kd.R_far (p := ⟨gb320, 3, none⟩) (Kd.R_far (p := ⟨gb320, 2, none⟩) (Kd.R_far (p := ⟨gb320, 1, none⟩) (Kd.R_far (p := ⟨gb320, 0, none⟩) (Kd.R_mono HO317.out (fun k_ hk => (⟨hk, hk.2⟩ : _ ∧ k_ ≠ gb320))) (fun _ hk => hk.2) (.int .i64 t312)) (fun _ hk => hk.2) (.string t313)) (fun _ hk => hk.2) (.int .i64 t314)) (fun _ hk => hk.2) (.slice Ao39 t315.length co39)) (fun _ h_ => h_.1))) (by decide)) hk (fun _ h => h.2)) (fun _ h => h.1)); replace BK320 := Aside0.mk (KeepBut.blk hk (g' := gb320) (o := .cells #[.int .i64 t312, .string t313, .int .i64 t314, .slice Ao39 t315.length co39] 29 (0, 0)) (by (with_reducible repeat (first | refine blk_drewN ?_ _ | refine blk_drew ?_ | refine blk_alloc ?_ _)); refine blk_put (cs := #[.int .i64 t312, .string t313, .int .i64 t314, .slice none 0 0]) ?_ 3 _ rfl; (with_reducible repeat (first | refine blk_drewN ?_ _ | refine blk_drew ?_ | refine blk_alloc ?_ _)); refine blk_put (cs := #[.int .i64 t312, .string t313, .int .i64 0, .slice none 0 0]) ?_ 2 _ rfl; (with_reducible repeat (first | refine blk_drewN ?_ _ | refine blk_drew ?_ | refine blk_alloc ?_ _)); refine blk_put (cs := #[.int .i64 t312, .string (⟨#[]⟩ : ByteArray), .int .i64 0, .slice none 0 0]) ?_ 1 _ rfl; (with_reducible repeat (first | refine blk_drewN ?_ _ | refine blk_drew ?_ | refine blk_alloc ?_ _)); refine blk_put (cs := #[.int .i64 0, .string (⟨#[]⟩ : ByteArray), .int .i64 0, .slice none 0 0]) ?_ 0 _ rfl; (with_reducible repeat (first | refine blk_drewN ?_ _ | refine blk_drew ?_ | refine blk_alloc ?_ _)); exact BK320.out) NB320_311.out (by simp)); replace HB := Aside0.mk (hb); replace HI311 := Aside0.mk (hi); (try clear hb); (try clear hb2); (try clear hk); (try clear hi)))
  replace HO317 := Aside0.mk (Kd.R_drew HO317.out)
  replace BK306 := Aside0.mk (blk_drew BK306.out)
  replace BK307 := Aside0.mk (blk_drew BK307.out)
  replace BK320 := Aside0.mk (blk_drew BK320.out)
  replace HI311 := Aside0.mk (IsS75.drew HI311.out)
  replace HB := Aside0.mk (below_drew1 HB.out)
  refine start_ (n := 5) (S := fun w' => w'.cell? ⟨gb320, 0, none⟩ = some (.int .i64 t312) ∧ w'.cell? ⟨gb320, 1, none⟩ = some (.string t313) ∧ w'.cell? ⟨gb320, 2, none⟩ = some (.int .i64 t314) ∧ w'.cell? ⟨gb320, 3, none⟩ = some (.slice Ao39 t315.length co39)) (ds := []) #[false, false, false, false, false] (by kernel_rfl) rfl rfl ⟨(blk_cell BK320.out 0).trans rfl, (blk_cell BK320.out 1).trans rfl, (blk_cell BK320.out 2).trans rfl, (blk_cell BK320.out 3).trans rfl⟩ (fun hHeld => ?_)
  generalize w40.drew = w41 at HO317 BK306 BK307 BK320 HI311 HB hHeld ⊢
  refine pure_ (i := 1) (N := some 16) (v := ?_) (a' := ?_) #[false, true, false, false, false] rfl rfl (by kernel_rfl) (fun _ _ _ h => h) (Or.inl ⟨by rfl, ?_⟩) ?_ ?_
  rotate_left
  ·intro w'
   go_simp
   with_reducible rfl
  rotate_left
  ·simp only [Act.put, List.setIfInBounds_toArray, List.set_cons_zero, List.set_cons_succ, i64_w, i32_w]
   rfl
  refine take_ (i := 0) (N := some 15) (v := ?_) (a' := ?_) #[true, true, false, false, false] rfl rfl (by kernel_rfl) (fun _ _ _ h => h) (Or.inl ⟨by rfl, ?_⟩) hHeld ?_ ?_
  rotate_left
  ·rintro w' ⟨s0, s1, s2, s3⟩
   go_simp
   with_reducible rfl
  rotate_left
  ·simp only [Act.put, List.setIfInBounds_toArray, List.set_cons_zero, List.set_cons_succ, i64_w, i32_w]
   rfl
  refine one_ (i := 2) (N := some 17) #[true, true, true, false, false] rfl rfl (by kernel_rfl) (by decide) (fun K hK => ?_)
  refine goes_ Try.func52 (by kernel_rfl) rfl #[.pointer (some ⟨g311, 0, none⟩)] (by rfl) rfl rfl ma_ ?_
  with_reducible refine (spec_l7Bent.calls k g311 t308 t322 t323 t330 t331 t332 t333 t336 t337 w _ ?side1 ?side2 A29.out).mono ?_
  (case side1 => repeat (first | (with_reducible first | exact HI311.out | apply IsS75.alloc | apply IsS75.drewN | apply IsS75.drew | apply IsS75.set_1 | apply IsS75.set_2 | refine IsS75.far ?_ NB311_306.out _ | refine IsS75.far ?_ NB311_307.out _ | refine IsS75.far ?_ NB311_320.out _) | exact HI311.out))
  (case side2 => repeat (first | (with_reducible first | exact HB.out | apply below_alloc | apply pw_below_drewN | apply below_drew1 | refine below_set ?_ (IsS75.ge HI311.out) | refine below_set ?_ GE306.out | refine below_set ?_ GE307.out | refine below_set ?_ GE320.out) | exact HB.out))
  rintro e w42 ⟨v334, rfl, ho0, hi, hb, hk⟩
  refine ⟨_, rfl, ?_⟩
  have HO335 := Aside0.mk (Kd.R_lower (Kd.R_newB (Kd.R_newB (Kd.R_newB (Kd.R_new' ho0 (Kd.R_lt (R_ HO317.out))) (g := gb306) (o := .cells #[.int .i64 0, .string (⟨#[]⟩ : ByteArray), .int .i64 0, .slice none 0 0] 29 (0, 0)) (K_ BK306.out)) (g := gb307) (o := .cells #[.int .i64 0, .string (⟨#[]⟩ : ByteArray), .int .i64 0, .slice none 0 0] 29 (0, 0)) (K_ BK307.out)) (g := gb320) (o := .cells #[.int .i64 t312, .string t313, .int .i64 t314, .slice Ao39 t315.length co39] 29 (0, 0)) (K_ BK320.out)) (below_size (by repeat (first | (with_reducible first | exact HB.out | apply below_alloc | apply pw_below_drewN | apply below_drew1 | refine below_set ?_ (IsS75.ge HI311.out) | refine below_set ?_ GE306.out | refine below_set ?_ GE307.out | refine below_set ?_ GE320.out) | exact HB.out))))
  replace BK306 := Aside0.mk (KeepBut.blk hk (g' := gb306) (o := .cells #[.int .i64 0, .string (⟨#[]⟩ : ByteArray), .int .i64 0, .slice none 0 0] 29 (0, 0)) (K_ BK306.out) NB306_311.out (by simp))
  replace BK307 := Aside0.mk (KeepBut.blk hk (g' := gb307) (o := .cells #[.int .i64 0, .string (⟨#[]⟩ : ByteArray), .int .i64 0, .slice none 0 0] 29 (0, 0)) (K_ BK307.out) NB307_311.out (by simp))
  replace HO317 := Aside0.mk (Kd.R_mono (Kd.R_told (Kd.R_oldK (IsS75.apart (show IsS75 w _ g311 t308 t322 t323 from by repeat (first | (with_reducible first | exact HI311.out | apply IsS75.alloc | apply IsS75.drewN | apply IsS75.drew | apply IsS75.set_1 | apply IsS75.set_2 | refine IsS75.far ?_ NB311_306.out _ | refine IsS75.far ?_ NB311_307.out _ | refine IsS75.far ?_ NB311_320.out _) | exact HI311.out)) (R_ HO317.out) (by decide)) hk) (Kd.R_base ho0)) (fun _ h_ => h_.1))
  replace BK320 := Aside0.mk (KeepBut.blk hk (g' := gb320) (o := .cells #[.int .i64 t312, .string t313, .int .i64 t314, .slice Ao39 t315.length co39] 29 (0, 0)) (K_ BK320.out) NB320_311.out (by simp))
  replace HB := Aside0.mk (hb)
  replace HI311 := Aside0.mk (hi)
  (try clear hb)
  (try clear hb2)
  (try clear hk)
  (try clear hi)
  (try clear ho0)
  obtain ⟨Ao50, co50, eo50⟩ := Kd.R_slice HO335.out
  (first | subst eo50 | (injection eo50 with f1_ f2_ f3_; have f4_ := f1_.symm; have f5_ := f3_.symm; clear f1_ f2_ f3_; subst f4_; subst f5_))
  refine hK.out _ _ ⟨(blk_cell BK320.out 0).trans rfl, (blk_cell BK320.out 1).trans rfl, (blk_cell BK320.out 2).trans rfl, (blk_cell BK320.out 3).trans rfl⟩ (fun hHeld => ?_)
  clear hK K
  refine norm_ (a' := ?_) ?_ ?_
  rotate_left
  ·show Act.put _ (some 17) _ = _
   simp only [Act.put, List.setIfInBounds_toArray, List.set_cons_zero, List.set_cons_succ, i64_w, i32_w]
   rfl
  refine one_ (i := 3) (N := none) #[true, true, true, true, false] rfl rfl (by kernel_rfl) (by decide) (fun K hK => ?_)
  have hs43 : w42.cell? ⟨gb306, 0, none⟩ = some (.int .i64 0) := (blk_cell BK306.out 0).trans rfl
  have hfs43 := blk_frozen BK306.out 0
  have hns43_1 := NB307_306.out
  have hns43_2 := NB320_306.out
  have hms43_1 := NB306_307.out
  have hms43_2 := NB306_320.out
  have hs44 : w42.cell? ⟨gb306, 1, none⟩ = some (.string (⟨#[]⟩ : ByteArray)) := (blk_cell BK306.out 1).trans rfl
  have hfs44 := blk_frozen BK306.out 1
  have hns44_1 := NB307_306.out
  have hns44_2 := NB320_306.out
  have hms44_1 := NB306_307.out
  have hms44_2 := NB306_320.out
  have hs45 : w42.cell? ⟨gb306, 2, none⟩ = some (.int .i64 0) := (blk_cell BK306.out 2).trans rfl
  have hfs45 := blk_frozen BK306.out 2
  have hns45_1 := NB307_306.out
  have hns45_2 := NB320_306.out
  have hms45_1 := NB306_307.out
  have hms45_2 := NB306_320.out
  have hs46 : w42.cell? ⟨gb306, 3, none⟩ = some (.slice none 0 0) := (blk_cell BK306.out 3).trans rfl
  have hfs46 := blk_frozen BK306.out 3
  have hns46_1 := NB307_306.out
  have hns46_2 := NB320_306.out
  have hms46_1 := NB306_307.out
  have hms46_2 := NB306_320.out
  refine skip_ (w1 := ?_) (by rfl) rfl ?_ ?_
  rotate_left
  ·go_simp
   rfl
  refine hK.out _ _ ⟨((cell_far (p := ⟨gb306, _, none⟩) NB320_306.out _).trans (((cell_far (p := ⟨gb306, _, none⟩) NB320_306.out _).trans (((cell_far (p := ⟨gb306, _, none⟩) NB320_306.out _).trans (((cell_far (p := ⟨gb306, _, none⟩) NB320_306.out _).trans (hHeld.1)))))))), ((cell_far (p := ⟨gb306, _, none⟩) NB320_306.out _).trans (((cell_far (p := ⟨gb306, _, none⟩) NB320_306.out _).trans (((cell_far (p := ⟨gb306, _, none⟩) NB320_306.out _).trans (((cell_far (p := ⟨gb306, _, none⟩) NB320_306.out _).trans (hHeld.2.1)))))))), ((cell_far (p := ⟨gb306, _, none⟩) NB320_306.out _).trans (((cell_far (p := ⟨gb306, _, none⟩) NB320_306.out _).trans (((cell_far (p := ⟨gb306, _, none⟩) NB320_306.out _).trans (((cell_far (p := ⟨gb306, _, none⟩) NB320_306.out _).trans (hHeld.2.2.1)))))))), ((cell_far (p := ⟨gb306, _, none⟩) NB320_306.out _).trans (((cell_far (p := ⟨gb306, _, none⟩) NB320_306.out _).trans (((cell_far (p := ⟨gb306, _, none⟩) NB320_306.out _).trans (((cell_far (p := ⟨gb306, _, none⟩) NB320_306.out _).trans (hHeld.2.2.2))))))))⟩ (fun hHeld => ?_)
  clear hK K
  refine one_ (i := 4) (N := none) #[true, true, true, true, true] rfl rfl (by kernel_rfl) (by decide) (fun K hK => ?_)
  have hs47 : w42.cell? ⟨gb307, 0, none⟩ = some (.int .i64 0) := (blk_cell BK307.out 0).trans rfl
  have hfs47 := blk_frozen BK307.out 0
  have hns47_0 := NB306_307.out
  have hns47_2 := NB320_307.out
  have hms47_0 := NB307_306.out
  have hms47_2 := NB307_320.out
  have hs48 : w42.cell? ⟨gb307, 1, none⟩ = some (.string (⟨#[]⟩ : ByteArray)) := (blk_cell BK307.out 1).trans rfl
  have hfs48 := blk_frozen BK307.out 1
  have hns48_0 := NB306_307.out
  have hns48_2 := NB320_307.out
  have hms48_0 := NB307_306.out
  have hms48_2 := NB307_320.out
  have hs49 : w42.cell? ⟨gb307, 2, none⟩ = some (.int .i64 0) := (blk_cell BK307.out 2).trans rfl
  have hfs49 := blk_frozen BK307.out 2
  have hns49_0 := NB306_307.out
  have hns49_2 := NB320_307.out
  have hms49_0 := NB307_306.out
  have hms49_2 := NB307_320.out
  have hs51 : w42.cell? ⟨gb307, 3, none⟩ = some (.slice none 0 0) := (blk_cell BK307.out 3).trans rfl
  have hfs51 := blk_frozen BK307.out 3
  have hns51_0 := NB306_307.out
  have hns51_2 := NB320_307.out
  have hms51_0 := NB307_306.out
  have hms51_2 := NB307_320.out
  refine skip_ (w1 := ?_) (by rfl) rfl ?_ ?_
  rotate_left
  ·go_simp
   rfl
  refine hK.out _ _ ⟨((cell_far (p := ⟨gb307, _, none⟩) NB320_307.out _).trans (((cell_far (p := ⟨gb307, _, none⟩) NB320_307.out _).trans (((cell_far (p := ⟨gb307, _, none⟩) NB320_307.out _).trans (((cell_far (p := ⟨gb307, _, none⟩) NB320_307.out _).trans (hHeld.1)))))))), ((cell_far (p := ⟨gb307, _, none⟩) NB320_307.out _).trans (((cell_far (p := ⟨gb307, _, none⟩) NB320_307.out _).trans (((cell_far (p := ⟨gb307, _, none⟩) NB320_307.out _).trans (((cell_far (p := ⟨gb307, _, none⟩) NB320_307.out _).trans (hHeld.2.1)))))))), ((cell_far (p := ⟨gb307, _, none⟩) NB320_307.out _).trans (((cell_far (p := ⟨gb307, _, none⟩) NB320_307.out _).trans (((cell_far (p := ⟨gb307, _, none⟩) NB320_307.out _).trans (((cell_far (p := ⟨gb307, _, none⟩) NB320_307.out _).trans (hHeld.2.2.1)))))))), ((cell_far (p := ⟨gb307, _, none⟩) NB320_307.out _).trans (((cell_far (p := ⟨gb307, _, none⟩) NB320_307.out _).trans (((cell_far (p := ⟨gb307, _, none⟩) NB320_307.out _).trans (((cell_far (p := ⟨gb307, _, none⟩) NB320_307.out _).trans (hHeld.2.2.2))))))))⟩ (fun hHeld => ?_)
  clear hK K
  refine done_ (by kernel_rfl) ?_
  try go_wp2
  refine bodyPost_ret (results_cc rfl _ _ gb306 gb307 29 29 #[.int .i64 t312, .string t313, .int .i64 t314, .slice Ao39 t315.length co39] #[.int .i64 t330, .string t331, .int .i64 t332, .slice Ao50 t333.length co50] (0, 0) (0, 0) _ _ rfl (by (with_reducible repeat (first | refine blk_drewN ?_ _ | refine blk_drew ?_ | refine blk_alloc ?_ _)); refine blk_far ?_ NB306_307.out _; (with_reducible repeat (first | refine blk_drewN ?_ _ | refine blk_drew ?_ | refine blk_alloc ?_ _)); refine blk_far ?_ NB306_307.out _; (with_reducible repeat (first | refine blk_drewN ?_ _ | refine blk_drew ?_ | refine blk_alloc ?_ _)); refine blk_far ?_ NB306_307.out _; (with_reducible repeat (first | refine blk_drewN ?_ _ | refine blk_drew ?_ | refine blk_alloc ?_ _)); refine blk_far ?_ NB306_307.out _; (with_reducible repeat (first | refine blk_drewN ?_ _ | refine blk_drew ?_ | refine blk_alloc ?_ _)); refine blk_put (cs := #[.int .i64 t312, .string t313, .int .i64 t314, .slice none 0 0]) ?_ 3 _ rfl; (with_reducible repeat (first | refine blk_drewN ?_ _ | refine blk_drew ?_ | refine blk_alloc ?_ _)); refine blk_put (cs := #[.int .i64 t312, .string t313, .int .i64 0, .slice none 0 0]) ?_ 2 _ rfl; (with_reducible repeat (first | refine blk_drewN ?_ _ | refine blk_drew ?_ | refine blk_alloc ?_ _)); refine blk_put (cs := #[.int .i64 t312, .string (⟨#[]⟩ : ByteArray), .int .i64 0, .slice none 0 0]) ?_ 1 _ rfl; (with_reducible repeat (first | refine blk_drewN ?_ _ | refine blk_drew ?_ | refine blk_alloc ?_ _)); refine blk_put (cs := #[.int .i64 0, .string (⟨#[]⟩ : ByteArray), .int .i64 0, .slice none 0 0]) ?_ 0 _ rfl; (with_reducible repeat (first | refine blk_drewN ?_ _ | refine blk_drew ?_ | refine blk_alloc ?_ _)); exact BK306.out) Try.underlying29 rfl (by kernel_rfl) rfl (by (with_reducible repeat (first | refine blk_drewN ?_ _ | refine blk_drew ?_ | refine blk_alloc ?_ _)); refine blk_put (cs := #[.int .i64 t330, .string t331, .int .i64 t332, .slice none 0 0]) ?_ 3 _ rfl; (with_reducible repeat (first | refine blk_drewN ?_ _ | refine blk_drew ?_ | refine blk_alloc ?_ _)); refine blk_put (cs := #[.int .i64 t330, .string t331, .int .i64 0, .slice none 0 0]) ?_ 2 _ rfl; (with_reducible repeat (first | refine blk_drewN ?_ _ | refine blk_drew ?_ | refine blk_alloc ?_ _)); refine blk_put (cs := #[.int .i64 t330, .string (⟨#[]⟩ : ByteArray), .int .i64 0, .slice none 0 0]) ?_ 1 _ rfl; (with_reducible repeat (first | refine blk_drewN ?_ _ | refine blk_drew ?_ | refine blk_alloc ?_ _)); refine blk_put (cs := #[.int .i64 0, .string (⟨#[]⟩ : ByteArray), .int .i64 0, .slice none 0 0]) ?_ 0 _ rfl; (with_reducible repeat (first | refine blk_drewN ?_ _ | refine blk_drew ?_ | refine blk_alloc ?_ _)); refine blk_far ?_ NB307_306.out _; (with_reducible repeat (first | refine blk_drewN ?_ _ | refine blk_drew ?_ | refine blk_alloc ?_ _)); refine blk_far ?_ NB307_306.out _; (with_reducible repeat (first | refine blk_drewN ?_ _ | refine blk_drew ?_ | refine blk_alloc ?_ _)); refine blk_far ?_ NB307_306.out _; (with_reducible repeat (first | refine blk_drewN ?_ _ | refine blk_drew ?_ | refine blk_alloc ?_ _)); refine blk_far ?_ NB307_306.out _; (with_reducible repeat (first | refine blk_drewN ?_ _ | refine blk_drew ?_ | refine blk_alloc ?_ _)); exact BK307.out) Try.underlying29 rfl (by kernel_rfl)) rfl ?_
  exact ⟨_, _, er_, by (with_reducible repeat (first | apply Kd.R_alloc | apply Kd.R_drewN | apply Kd.R_drew)); exact Kd.R_mono (Kd.R_far (p := ⟨gb307, 3, none⟩) (Kd.R_far (p := ⟨gb307, 2, none⟩) (Kd.R_far (p := ⟨gb307, 1, none⟩) (Kd.R_far (p := ⟨gb307, 0, none⟩) (Kd.R_far (p := ⟨gb306, 3, none⟩) (Kd.R_far (p := ⟨gb306, 2, none⟩) (Kd.R_far (p := ⟨gb306, 1, none⟩) (Kd.R_far (p := ⟨gb306, 0, none⟩) (Kd.R_mono (Kd.R_mono HO317.out (fun k_ hk => (⟨hk, hk.1.1.1.2⟩ : _ ∧ k_ ≠ gb306))) (fun k_ hk => (⟨hk, hk.1.1.1.2⟩ : _ ∧ k_ ≠ gb307))) (fun _ hk => hk.1.2) (.int .i64 t312)) (fun _ hk => hk.1.2) (.string t313)) (fun _ hk => hk.1.2) (.int .i64 t314)) (fun _ hk => hk.1.2) (.slice Ao39 t315.length co39)) (fun _ hk => hk.2) (.int .i64 t330)) (fun _ hk => hk.2) (.string t331)) (fun _ hk => hk.2) (.int .i64 t332)) (fun _ hk => hk.2) (.slice Ao50 t333.length co50)) (fun _ hk => hk.1.1.2), by (with_reducible repeat (first | apply Kd.R_alloc | apply Kd.R_drewN | apply Kd.R_drew)); exact Kd.R_mono (Kd.R_far (p := ⟨gb307, 3, none⟩) (Kd.R_far (p := ⟨gb307, 2, none⟩) (Kd.R_far (p := ⟨gb307, 1, none⟩) (Kd.R_far (p := ⟨gb307, 0, none⟩) (Kd.R_far (p := ⟨gb306, 3, none⟩) (Kd.R_far (p := ⟨gb306, 2, none⟩) (Kd.R_far (p := ⟨gb306, 1, none⟩) (Kd.R_far (p := ⟨gb306, 0, none⟩) (Kd.R_mono (Kd.R_mono HO335.out (fun k_ hk => (⟨hk, hk.1.1.2⟩ : _ ∧ k_ ≠ gb306))) (fun k_ hk => (⟨hk, hk.1.1.2⟩ : _ ∧ k_ ≠ gb307))) (fun _ hk => hk.1.2) (.int .i64 t312)) (fun _ hk => hk.1.2) (.string t313)) (fun _ hk => hk.1.2) (.int .i64 t314)) (fun _ hk => hk.1.2) (.slice Ao39 t315.length co39)) (fun _ hk => hk.2) (.int .i64 t330)) (fun _ hk => hk.2) (.string t331)) (fun _ hk => hk.2) (.int .i64 t332)) (fun _ hk => hk.2) (.slice Ao50 t333.length co50)) (fun _ hk => hk.1.1.1.1.1.2), by repeat (first | (with_reducible first | exact HB.out | apply below_alloc | apply pw_below_drewN | apply below_drew1 | refine below_set ?_ (IsS75.ge HI311.out) | refine below_set ?_ GE306.out | refine below_set ?_ GE307.out | refine below_set ?_ GE320.out) | exact HB.out)⟩

/-! ### spec_DrawArityOf: function 31 -/
def spec_DrawArityOf.f (k : Nat) (l0 : List Int) : Option (Int) := (spec_l1New.f k l0).bind fun bt338 => ((spec_l1Below.f bt338.1 bt338.2.1 bt338.2.2 16).bind fun bt342 => (some (wrap64 (bt342.1 - 1))))
theorem spec_DrawArityOf.mono : ∀ a0 k, LeO (spec_DrawArityOf.f k a0) (spec_DrawArityOf.f (k + 1) a0) := by
 intro a0 k
 unfold spec_DrawArityOf.f
 repeat' first
   | (with_reducible exact spec_l1New.mono _ _)
   | (with_reducible exact LeO.refl _)
   | (with_reducible exact LeO.none _)
   | (with_reducible refine LeO.ite ?_ ?_)
   | (with_reducible refine LeO.bind ?_ (fun _ => ?_))
   | exact spec_l1New.mono _ _
   | exact LeO.none _
   | refine LeO.ite ?_ ?_
   | refine LeO.bind ?_ (fun _ => ?_)
set_option maxHeartbeats 8000000 in
set_option maxRecDepth 100000 in
theorem spec_DrawArityOf.calls (k : Nat) (A0 : Option Addr) (c0 : Nat) (l0 : List Int) (r : Int) (w : World) (hr0 : Kd.C (Kd.int .u8) w A0 l0.length l0) (hc0 : l0.length ≤ c0) (h : spec_DrawArityOf.f k l0 = some r) :
  Calls Try.prog 31 #[.slice A0 l0.length c0] w fun e w' => e = .returned (.int .i64 r) ∧ Below w.heap.size w w' := by
 have HR0 := Aside0.mk hr0
 have HC0 := Aside0.mk hc0
 clear hr0 hc0
 have HB := Aside0.mk (Below.refl w.heap.size w)
 have H : ((spec_l1New.f k l0).bind fun bt338 => ((spec_l1Below.f bt338.1 bt338.2.1 bt338.2.2 16).bind fun bt342 => (some (wrap64 (bt342.1 - 1))))) = some r := h
 clear h
 replace H := Option.bind_eq_some_iff.mp H
 obtain ⟨⟨t338, t339, t340⟩, A20, H⟩ := H
 replace H : ((spec_l1Below.f t338 t339 t340 16).bind fun bt342 => (some (wrap64 (bt342.1 - 1)))) = some r := H
 have A2 := Aside0.mk A20
 clear A20
 replace H := Option.bind_eq_some_iff.mp H
 obtain ⟨⟨t342, t343, t344⟩, A30, H⟩ := H
 replace H : (some (wrap64 (t342 - 1))) = some r := H
 have A3 := Aside0.mk A30
 clear A30
 obtain rfl := Option.some.inj H
 go_enter Try.func31, Try.ntmps31
 go_wp2_with (first | ((with_reducible refine gate_callee (f := 51) rfl ?_); refine goesL_ (some 4) rfl rfl Try.func51 (by kernel_rfl) rfl #[.slice A0 l0.length c0] rfl ma_ ?_; (with_reducible refine (spec_l1New.calls k _ _ l0 t338 t339 t340 w _ ?side1 ?side2 ?side3 A2.out).mono ?_); (case side1 => repeat (first | (with_reducible first | exact HB.out | apply below_alloc | apply pw_below_drewN | apply below_drew1) | exact HB.out)); (case side2 => exact HR0.out); (case side3 => exact HC0.out); rintro e w4 ⟨g341, rfl, hi, hb, hb2⟩; refine ⟨_, rfl, ?_⟩; replace HB := Aside0.mk (hb); have HI341 := Aside0.mk (hi); (try clear hb); (try clear hb2); (try clear hk); (try clear hi)) | ((with_reducible refine gate_callee (f := 54) rfl ?_); refine goesL_ (some 5) rfl rfl Try.func54 (by kernel_rfl) rfl #[.pointer (some ⟨g341, 0, none⟩), .int .i64 16] rfl ma_ ?_; (with_reducible refine (spec_l1Below.calls g341 t338 t339 t340 16 t342 t343 t344 w _ ?side1 ?side2 A3.out).mono ?_); (case side1 => repeat (first | (with_reducible first | exact HI341.out | apply IsS75.alloc | apply IsS75.drewN | apply IsS75.drew | apply IsS75.set_1 | apply IsS75.set_2) | exact HI341.out)); (case side2 => repeat (first | (with_reducible first | exact HB.out | apply below_alloc | apply pw_below_drewN | apply below_drew1 | refine below_set ?_ (IsS75.ge HI341.out)) | exact HB.out)); rintro e w5 ⟨rfl, hi, hb, hk⟩; refine ⟨_, rfl, ?_⟩; replace HB := Aside0.mk (hb); replace HI341 := Aside0.mk (hi); (try clear hb); (try clear hb2); (try clear hk); (try clear hi)))
 go_ret
 exact ⟨er_, by repeat (first | (with_reducible first | exact HB.out | apply below_alloc | apply pw_below_drewN | apply below_drew1 | refine below_set ?_ (IsS75.ge HI341.out)) | exact HB.out)⟩

end Go.Proofs.Ytibcndpadbipmaa.XF
