-- Written by myprint.py, a program of this session, which runs the kit's printer with changes of its own. Lean checks it.
import Derived.Test.YtmelflbbeecjfaaXBx0
import Derived.Test.YtmelflbbeecjfaaXBx5
import Derived.Test.YtmelflbbeecjfaaSq
namespace Go.Proofs.Ytmelflbbeecjfaa.XB
open Go.RowKit Go.Proofs.YtmelflbbeecjfaaW.PrintWords Go.Proofs.YtmelflbbeecjfaaW.PrintLast Go.Proofs.YtmelflbbeecjfaaW.PrintMore Go.Proofs.Ytmelflbbeecjfaa.Sq
attribute [local go_sem] max2_int min2_int max_two min_two max_three min_three max_four min_four   -- for this text's walks alone
set_option linter.unusedVariables false
set_option linter.unusedSimpArgs false

/-! ### spec_l3Left: function 80 -/
mutual
def spec_l3Left.l0 : Nat → Int → Int → Int → List ByteArray → List (S44) → Option (Int)
 | 0, _, _, _, _, _ => none
 | k + 1, x1, x5, x197000, x197001, x197002 => if x5 < (x197002.length : Int) then (if x1 ≥ 0 then (if 0 ≤ x5 then ((spec_l3Left.f k ((rd_T44 x197002 x5).f0) ((rd_T44 x197002 x5).f1) ((rd_T44 x197002 x5).f2) x1).bind fun t198 => (spec_l3Left.l0 k t198 (wrap64 (x5 + 1)) x197000 x197001 x197002)) else (none)) else (some x1)) else (some x1)
def spec_l3Left.f : Nat → Int → List ByteArray → List (S44) → Int → Option (Int)
 | 0, _, _, _, _ => none
 | k + 1, a0_0, l0_1, l0_2, a1 => spec_l3Left.l0 k (wrap64 (a1 - 1)) 0 a0_0 l0_1 l0_2
end
theorem spec_l3Left.mono_l : ∀ k, (∀ y0 y1 y2 y3, LeO (spec_l3Left.f k y0 y1 y2 y3) (spec_l3Left.f (k + 1) y0 y1 y2 y3)) ∧ (∀ y0 y1 y2 y3 y4, LeO (spec_l3Left.l0 k y0 y1 y2 y3 y4) (spec_l3Left.l0 (k + 1) y0 y1 y2 y3 y4))
 | 0 => ⟨fun _ _ _ _ r h => by simp [spec_l3Left.f] at h, fun _ _ _ _ _ r h => by simp [spec_l3Left.l0] at h⟩
 | k + 1 => by
  obtain ⟨ih0, ih1⟩ := spec_l3Left.mono_l k
  refine ⟨?_, ?_⟩
  ·intro y0 y1 y2 y3
   unfold spec_l3Left.f
   repeat' first
   | (with_reducible exact ih0 _ _ _ _)
   | (with_reducible exact ih1 _ _ _ _ _)
   | (with_reducible exact LeO.refl _)
   | (with_reducible exact LeO.none _)
   | (with_reducible refine LeO.ite ?_ ?_)
   | (with_reducible refine LeO.bind ?_ (fun _ => ?_))
   | exact ih0 _ _ _ _
   | exact ih1 _ _ _ _ _
   | exact LeO.none _
   | refine LeO.ite ?_ ?_
   | refine LeO.bind ?_ (fun _ => ?_)
  ·intro y0 y1 y2 y3 y4
   unfold spec_l3Left.l0
   repeat' first
   | (with_reducible exact ih0 _ _ _ _)
   | (with_reducible exact ih1 _ _ _ _ _)
   | (with_reducible exact LeO.refl _)
   | (with_reducible exact LeO.none _)
   | (with_reducible refine LeO.ite ?_ ?_)
   | (with_reducible refine LeO.bind ?_ (fun _ => ?_))
   | exact ih0 _ _ _ _
   | exact ih1 _ _ _ _ _
   | exact LeO.none _
   | refine LeO.ite ?_ ?_
   | refine LeO.bind ?_ (fun _ => ?_)
theorem spec_l3Left.mono : ∀ a0 a1 a2 a3 k, LeO (spec_l3Left.f k a0 a1 a2 a3) (spec_l3Left.f (k + 1) a0 a1 a2 a3) := by
 intro a0 a1 a2 a3 k
 obtain ⟨ih0, ih1⟩ := spec_l3Left.mono_l k
 exact ih0 a0 a1 a2 a3
set_option maxHeartbeats 8000000 in
set_option maxRecDepth 100000 in
theorem spec_l3Left.calls (k : Nat) : ∀ (a0_0 : Int) (A0_1 : Option Addr) (c0_1 : Nat) (l0_1 : List ByteArray) (A0_2 : Option Addr) (c0_2 : Nat) (l0_2 : List (S44)) (a1 : Int) (r : Int) (w : World) (hr0_1 : Kd.C Kd.string w A0_1 l0_1.length l0_1) (hc0_1 : l0_1.length ≤ c0_1) (hr0_2 : Kd.C k44 w A0_2 l0_2.length l0_2) (hc0_2 : l0_2.length ≤ c0_2) (h : spec_l3Left.f k a0_0 l0_1 l0_2 a1 = some r),
  Calls Try.prog 80 #[.agg #[.int .i64 a0_0, .slice A0_1 l0_1.length c0_1, .slice A0_2 l0_2.length c0_2], .int .i64 a1] w fun e w' => e = .returned (.int .i64 r) ∧ Below w.heap.size w w' := by
 induction k using Nat.strongRecOn with
 | _ k ih =>
 intro a0_0 A0_1 c0_1 l0_1 A0_2 c0_2 l0_2 a1 r w hr0_1 hc0_1 hr0_2 hc0_2 h
 cases k with
 | zero => exact absurd h (by simp [spec_l3Left.f])
 | succ k =>
 simp only [spec_l3Left.f] at h
 have hu44 := Try.underlying44
 have HR0_1 := Aside0.mk hr0_1
 have HC0_1 := Aside0.mk hc0_1
 clear hr0_1 hc0_1
 have HR0_2 := Aside0.mk hr0_2
 have HC0_2 := Aside0.mk hc0_2
 clear hr0_2 hc0_2
 have HB := Aside0.mk (Below.refl w.heap.size w)
 have H : (spec_l3Left.l0 k (wrap64 (a1 - 1)) 0 a0_0 l0_1 l0_2) = some r := h
 clear h
 have H' := Aside0.mk H
 clear H
 go_enter Try.func80, Try.ntmps80
 go_wp2_with (first | ((with_reducible refine gate_dst (N := 2) rfl ?_); refine box_event ?hg (N := 2) ?hd (cs := #[.int .i64 a0_0, .slice A0_1 l0_1.length c0_1, .slice A0_2 l0_2.length c0_2]) (t := 44) ?hr ?_; (case hd => rfl); (case hg => rfl); (case hr => first | (go_simp; done) | (go_simp; rfl)); intro gb196 hg w3 hbox hb; have BK196 := Aside0.mk (hbox); have GW196 := Aside0.mk ((by rw [hg]; exact (below_size (B0_ HB.out)) : w.heap.size ≤ gb196)); have GE196 := Aside0.mk ((by rw [hg]; exact (below_size (B0_ HB.out)) : w.heap.size ≤ gb196)); replace HB := Aside0.mk (below_step (B0_ HB.out) hb); clear hb hbox hg))
 go_loopg [1, 5] k (fun kq v1 v5 w' => ∃ (x1_1 : Int) (x5_1 : Int), v1 = .int .i64 x1_1 ∧ v5 = .int .i64 x5_1 ∧ Aside0 (spec_l3Left.l0 kq x1_1 x5_1 a0_0 l0_1 l0_2 = some r) ∧ Aside0 (kq ≤ k) ∧ Aside0 (w'.heap[gb196]? = some (.cells #[.int .i64 a0_0, (.slice A0_1 l0_1.length c0_1), (.slice A0_2 l0_2.length c0_2)] 44 (0, 0))) ∧ Aside0 (Below w.heap.size w w'))
 case atStart => exact ⟨(wrap64 (a1 - 1)), (0), q_, q_, H', ⟨Nat.le_refl _⟩, ⟨K_ BK196.out⟩, ⟨B1_ HB.out GE196.out⟩⟩
 case round =>
  clear H'
  obtain ⟨x1_1, x5_1, rfl, rfl, HA, HK1, BK196, HB⟩ := hrel
  cases gk with
  | zero => exact absurd HA.out (by simp [spec_l3Left.l0])
  | succ k1 =>
   have H := HA.out
   clear HA
   simp only [spec_l3Left.l0] at H
   by_cases c4 : x5_1 < (l0_2.length : Int)
   ·rw [if_pos c4] at H
    have c4b0 : decide (x5_1 < (l0_2.length : Int)) = true := decide_eq_true c4
    clear c4
    by_cases c5 : x1_1 ≥ 0
    ·rw [if_pos c5] at H
     have c5b0 : decide (0 ≤ x1_1) = true := decide_eq_true c5
     clear c5
     by_cases c6 : 0 ≤ x5_1
     ·rw [if_pos c6] at H
      have c6b0 : decide (0 ≤ x5_1) = true := decide_eq_true c6
      clear c6
      replace H := Option.bind_eq_some_iff.mp H
      obtain ⟨t198, A70, H⟩ := H
      replace H : (spec_l3Left.l0 k1 t198 (wrap64 (x5_1 + 1)) a0_0 l0_1 l0_2) = some r := H
      have A7 := Aside0.mk A70
      clear A70
      have H' := Aside0.mk H
      clear H
      obtain ⟨hcz8_0, hcz8_1, hcz8_2, hfz8_0, hfz8_1, hfz8_2⟩ := box3_ BK196.out
      have p197 : 0 ≤ (x5_1 : Int) := de_
      have q197 : x5_1 < (l0_2.length : Int) := de_
      obtain ⟨ad197, A197_1, c197_1, A197_2, c197_2, e197, hx197_0, hx197_1, hx197_2, hl197_1, hi197_1, hl197_2, hi197_2⟩ := at_T44 HR0_2.out x5_1 p197 q197
      cases e197
      replace hx197_0 := (HB.out.cell (World.block_lt_of_cell? w _ hx197_0)).trans hx197_0
      replace hx197_1 := (HB.out.cell (World.block_lt_of_cell? w _ hx197_1)).trans hx197_1
      replace hx197_2 := (HB.out.cell (World.block_lt_of_cell? w _ hx197_2)).trans hx197_2
      have HR197_1 := Aside0.mk hi197_1
      have HC197_1 := Aside0.mk hl197_1
      clear hi197_1 hl197_1
      have HR197_2 := Aside0.mk hi197_2
      have HC197_2 := Aside0.mk hl197_2
      clear hi197_2 hl197_2
      replace p197 := eq_true p197
      replace q197 := eq_true q197
      go_wp2_with (first | ((with_reducible refine gate_callee (f := 80) rfl ?_); refine goesL_ (some 25) rfl rfl Try.func80 (by kernel_rfl) rfl #[.agg #[.int .i64 ((rd_T44 l0_2 x5_1).f0), .slice A197_1 ((rd_T44 l0_2 x5_1).f1).length c197_1, .slice A197_2 ((rd_T44 l0_2 x5_1).f2).length c197_2], .int .i64 x1_1] rfl ma_ ?_; (with_reducible refine (ih k1 (by have := HK1.out; omega) ((rd_T44 l0_2 x5_1).f0) _ _ ((rd_T44 l0_2 x5_1).f1) _ _ ((rd_T44 l0_2 x5_1).f2) x1_1 t198 _ ?side1 ?side2 ?side3 ?side4 A7.out).mono ?_); (case side1 => exact C_ (Kd.C_below HR197_1.out HB.out)); (case side2 => exact HC197_1.out); (case side3 => exact C_ (Kd.C_below HR197_2.out HB.out)); (case side4 => exact HC197_2.out); rintro e w9 ⟨rfl, hb⟩; refine ⟨_, rfl, ?_⟩; replace BK196 := Aside0.mk (blk_below (K_ BK196.out) hb); replace HB := Aside0.mk (below_step (B1_ HB.out GE196.out) hb); (try clear hb); (try clear hb2); (try clear hk); (try clear hi)))
      go_roundg k1
      case measure => have := HK1.out; omega
      case rel => exact ⟨(t198), (wrap64 (x5_1 + 1)), q_, q_, H', ⟨by have := HK1.out; omega⟩, ⟨K_ BK196.out⟩, ⟨B1_ HB.out GE196.out⟩⟩
     ·rw [if_neg c6] at H
      exact absurd H (by simp)
    ·rw [if_neg c5] at H
     have c5b0 : decide (0 ≤ x1_1) = false := decide_eq_false c5
     clear c5
     obtain rfl := Option.some.inj H
     obtain ⟨hcz10_0, hcz10_1, hcz10_2, hfz10_0, hfz10_1, hfz10_2⟩ := box3_ BK196.out
     go_wp2
     go_ret
     exact ⟨er_, B1_ HB.out GE196.out⟩
   ·rw [if_neg c4] at H
    have c4b0 : decide (x5_1 < (l0_2.length : Int)) = false := decide_eq_false c4
    clear c4
    obtain rfl := Option.some.inj H
    obtain ⟨hcz11_0, hcz11_1, hcz11_2, hfz11_0, hfz11_1, hfz11_2⟩ := box3_ BK196.out
    go_wp2
    go_ret
    exact ⟨er_, B1_ HB.out GE196.out⟩

/-! ### spec_l1Max: function 118 -/
def spec_l1Max.f (a0 : Int) (a1 : Int) : Option (Int) := if a0 > a1 then (some a0) else (some a1)
set_option maxHeartbeats 8000000 in
set_option maxRecDepth 100000 in
theorem spec_l1Max.calls (a0 : Int) (a1 : Int) (r : Int) (w : World) (h : spec_l1Max.f a0 a1 = some r) :
  Calls Try.prog 118 #[.int .i64 a0, .int .i64 a1] w fun e w' => e = .returned (.int .i64 r) ∧ Drawn0 w w' := by
 have H : (if a0 > a1 then (some a0) else (some a1)) = some r := h
 clear h
 by_cases c3 : a0 > a1
 ·rw [if_pos c3] at H
  have c3b0 : decide (a1 < a0) = true := decide_eq_true c3
  clear c3
  obtain rfl := Option.some.inj H
  go_enter Try.func118, Try.ntmps118
  go_wp2
  go_ret
  exact ⟨by first | rfl | (simp; done) | (simp [*]; done), by repeat (first | exact Drawn0.refl _ | apply Drawn0.step)⟩
 ·rw [if_neg c3] at H
  have c3b0 : decide (a1 < a0) = false := decide_eq_false c3
  clear c3
  obtain rfl := Option.some.inj H
  go_enter Try.func118, Try.ntmps118
  go_wp2
  go_ret
  exact ⟨by first | rfl | (simp; done) | (simp [*]; done), by repeat (first | exact Drawn0.refl _ | apply Drawn0.step)⟩

/-! ### spec_DepthOfType: function 81 -/
mutual
def spec_DepthOfType.l0 : Nat → Int → Int → Int → List ByteArray → List (S44) → Option (Int)
 | 0, _, _, _, _, _ => none
 | k + 1, x3, x4, x200000, x200001, x200002 => if x4 < (x200002.length : Int) then (if 0 ≤ x4 then ((spec_DepthOfType.f k ((rd_T44 x200002 x4).f0) ((rd_T44 x200002 x4).f1) ((rd_T44 x200002 x4).f2)).bind fun t201 => ((spec_l1Max.f x3 t201).bind fun t202 => (spec_DepthOfType.l0 k t202 (wrap64 (x4 + 1)) x200000 x200001 x200002))) else (none)) else (some (wrap64 (x3 + 1)))
def spec_DepthOfType.f : Nat → Int → List ByteArray → List (S44) → Option (Int)
 | 0, _, _, _ => none
 | k + 1, a0_0, l0_1, l0_2 => spec_DepthOfType.l0 k 0 0 a0_0 l0_1 l0_2
end
theorem spec_DepthOfType.mono_l : ∀ k, (∀ y0 y1 y2, LeO (spec_DepthOfType.f k y0 y1 y2) (spec_DepthOfType.f (k + 1) y0 y1 y2)) ∧ (∀ y0 y1 y2 y3 y4, LeO (spec_DepthOfType.l0 k y0 y1 y2 y3 y4) (spec_DepthOfType.l0 (k + 1) y0 y1 y2 y3 y4))
 | 0 => ⟨fun _ _ _ r h => by simp [spec_DepthOfType.f] at h, fun _ _ _ _ _ r h => by simp [spec_DepthOfType.l0] at h⟩
 | k + 1 => by
  obtain ⟨ih0, ih1⟩ := spec_DepthOfType.mono_l k
  refine ⟨?_, ?_⟩
  ·intro y0 y1 y2
   unfold spec_DepthOfType.f
   repeat' first
   | (with_reducible exact ih0 _ _ _)
   | (with_reducible exact ih1 _ _ _ _ _)
   | (with_reducible exact LeO.refl _)
   | (with_reducible exact LeO.none _)
   | (with_reducible refine LeO.ite ?_ ?_)
   | (with_reducible refine LeO.bind ?_ (fun _ => ?_))
   | exact ih0 _ _ _
   | exact ih1 _ _ _ _ _
   | exact LeO.none _
   | refine LeO.ite ?_ ?_
   | refine LeO.bind ?_ (fun _ => ?_)
  ·intro y0 y1 y2 y3 y4
   unfold spec_DepthOfType.l0
   repeat' first
   | (with_reducible exact ih0 _ _ _)
   | (with_reducible exact ih1 _ _ _ _ _)
   | (with_reducible exact LeO.refl _)
   | (with_reducible exact LeO.none _)
   | (with_reducible refine LeO.ite ?_ ?_)
   | (with_reducible refine LeO.bind ?_ (fun _ => ?_))
   | exact ih0 _ _ _
   | exact ih1 _ _ _ _ _
   | exact LeO.none _
   | refine LeO.ite ?_ ?_
   | refine LeO.bind ?_ (fun _ => ?_)
theorem spec_DepthOfType.mono : ∀ a0 a1 a2 k, LeO (spec_DepthOfType.f k a0 a1 a2) (spec_DepthOfType.f (k + 1) a0 a1 a2) := by
 intro a0 a1 a2 k
 obtain ⟨ih0, ih1⟩ := spec_DepthOfType.mono_l k
 exact ih0 a0 a1 a2
set_option maxHeartbeats 8000000 in
set_option maxRecDepth 100000 in
theorem spec_DepthOfType.calls (k : Nat) : ∀ (a0_0 : Int) (A0_1 : Option Addr) (c0_1 : Nat) (l0_1 : List ByteArray) (A0_2 : Option Addr) (c0_2 : Nat) (l0_2 : List (S44)) (r : Int) (w : World) (hr0_1 : Kd.C Kd.string w A0_1 l0_1.length l0_1) (hc0_1 : l0_1.length ≤ c0_1) (hr0_2 : Kd.C k44 w A0_2 l0_2.length l0_2) (hc0_2 : l0_2.length ≤ c0_2) (h : spec_DepthOfType.f k a0_0 l0_1 l0_2 = some r),
  Calls Try.prog 81 #[.agg #[.int .i64 a0_0, .slice A0_1 l0_1.length c0_1, .slice A0_2 l0_2.length c0_2]] w fun e w' => e = .returned (.int .i64 r) ∧ Below w.heap.size w w' := by
 induction k using Nat.strongRecOn with
 | _ k ih =>
 intro a0_0 A0_1 c0_1 l0_1 A0_2 c0_2 l0_2 r w hr0_1 hc0_1 hr0_2 hc0_2 h
 cases k with
 | zero => exact absurd h (by simp [spec_DepthOfType.f])
 | succ k =>
 simp only [spec_DepthOfType.f] at h
 have hu44 := Try.underlying44
 have HR0_1 := Aside0.mk hr0_1
 have HC0_1 := Aside0.mk hc0_1
 clear hr0_1 hc0_1
 have HR0_2 := Aside0.mk hr0_2
 have HC0_2 := Aside0.mk hc0_2
 clear hr0_2 hc0_2
 have HB := Aside0.mk (Below.refl w.heap.size w)
 have H : (spec_DepthOfType.l0 k 0 0 a0_0 l0_1 l0_2) = some r := h
 clear h
 have H' := Aside0.mk H
 clear H
 go_enter Try.func81, Try.ntmps81
 go_wp2_with (first | ((with_reducible refine gate_dst (N := 1) rfl ?_); refine box_event ?hg (N := 1) ?hd (cs := #[.int .i64 a0_0, .slice A0_1 l0_1.length c0_1, .slice A0_2 l0_2.length c0_2]) (t := 44) ?hr ?_; (case hd => rfl); (case hg => rfl); (case hr => first | (go_simp; done) | (go_simp; rfl)); intro gb199 hg w2 hbox hb; have BK199 := Aside0.mk (hbox); have GW199 := Aside0.mk ((by rw [hg]; exact (below_size (B0_ HB.out)) : w.heap.size ≤ gb199)); have GE199 := Aside0.mk ((by rw [hg]; exact (below_size (B0_ HB.out)) : w.heap.size ≤ gb199)); replace HB := Aside0.mk (below_step (B0_ HB.out) hb); clear hb hbox hg))
 go_loopg [3, 4] k (fun kq v3 v4 w' => ∃ (x3_1 : Int) (x4_1 : Int), v3 = .int .i64 x3_1 ∧ v4 = .int .i64 x4_1 ∧ Aside0 (spec_DepthOfType.l0 kq x3_1 x4_1 a0_0 l0_1 l0_2 = some r) ∧ Aside0 (kq ≤ k) ∧ Aside0 (w'.heap[gb199]? = some (.cells #[.int .i64 a0_0, (.slice A0_1 l0_1.length c0_1), (.slice A0_2 l0_2.length c0_2)] 44 (0, 0))) ∧ Aside0 (Below w.heap.size w w'))
 case atStart => exact ⟨(0), (0), q_, q_, H', ⟨Nat.le_refl _⟩, ⟨K_ BK199.out⟩, ⟨B1_ HB.out GE199.out⟩⟩
 case round =>
  clear H'
  obtain ⟨x3_1, x4_1, rfl, rfl, HA, HK1, BK199, HB⟩ := hrel
  cases gk with
  | zero => exact absurd HA.out (by simp [spec_DepthOfType.l0])
  | succ k1 =>
   have H := HA.out
   clear HA
   simp only [spec_DepthOfType.l0] at H
   by_cases c3 : x4_1 < (l0_2.length : Int)
   ·rw [if_pos c3] at H
    have c3b0 : decide (x4_1 < (l0_2.length : Int)) = true := decide_eq_true c3
    clear c3
    by_cases c4 : 0 ≤ x4_1
    ·rw [if_pos c4] at H
     have c4b0 : decide (0 ≤ x4_1) = true := decide_eq_true c4
     clear c4
     replace H := Option.bind_eq_some_iff.mp H
     obtain ⟨t201, A50, H⟩ := H
     replace H : ((spec_l1Max.f x3_1 t201).bind fun t202 => (spec_DepthOfType.l0 k1 t202 (wrap64 (x4_1 + 1)) a0_0 l0_1 l0_2)) = some r := H
     have A5 := Aside0.mk A50
     clear A50
     replace H := Option.bind_eq_some_iff.mp H
     obtain ⟨t202, A60, H⟩ := H
     replace H : (spec_DepthOfType.l0 k1 t202 (wrap64 (x4_1 + 1)) a0_0 l0_1 l0_2) = some r := H
     have A6 := Aside0.mk A60
     clear A60
     have H' := Aside0.mk H
     clear H
     obtain ⟨hcz7_0, hcz7_1, hcz7_2, hfz7_0, hfz7_1, hfz7_2⟩ := box3_ BK199.out
     have p200 : 0 ≤ (x4_1 : Int) := de_
     have q200 : x4_1 < (l0_2.length : Int) := de_
     obtain ⟨ad200, A200_1, c200_1, A200_2, c200_2, e200, hx200_0, hx200_1, hx200_2, hl200_1, hi200_1, hl200_2, hi200_2⟩ := at_T44 HR0_2.out x4_1 p200 q200
     cases e200
     replace hx200_0 := (HB.out.cell (World.block_lt_of_cell? w _ hx200_0)).trans hx200_0
     replace hx200_1 := (HB.out.cell (World.block_lt_of_cell? w _ hx200_1)).trans hx200_1
     replace hx200_2 := (HB.out.cell (World.block_lt_of_cell? w _ hx200_2)).trans hx200_2
     have HR200_1 := Aside0.mk hi200_1
     have HC200_1 := Aside0.mk hl200_1
     clear hi200_1 hl200_1
     have HR200_2 := Aside0.mk hi200_2
     have HC200_2 := Aside0.mk hl200_2
     clear hi200_2 hl200_2
     replace p200 := eq_true p200
     replace q200 := eq_true q200
     go_wp2_with (first | ((with_reducible refine gate_callee (f := 81) rfl ?_); refine goesL_ (some 18) rfl rfl Try.func81 (by kernel_rfl) rfl #[.agg #[.int .i64 ((rd_T44 l0_2 x4_1).f0), .slice A200_1 ((rd_T44 l0_2 x4_1).f1).length c200_1, .slice A200_2 ((rd_T44 l0_2 x4_1).f2).length c200_2]] rfl ma_ ?_; (with_reducible refine (ih k1 (by have := HK1.out; omega) ((rd_T44 l0_2 x4_1).f0) _ _ ((rd_T44 l0_2 x4_1).f1) _ _ ((rd_T44 l0_2 x4_1).f2) t201 _ ?side1 ?side2 ?side3 ?side4 A5.out).mono ?_); (case side1 => exact C_ (Kd.C_below HR200_1.out HB.out)); (case side2 => exact HC200_1.out); (case side3 => exact C_ (Kd.C_below HR200_2.out HB.out)); (case side4 => exact HC200_2.out); rintro e w8 ⟨rfl, hb⟩; refine ⟨_, rfl, ?_⟩; replace BK199 := Aside0.mk (blk_below (K_ BK199.out) hb); replace HB := Aside0.mk (below_step (B1_ HB.out GE199.out) hb); (try clear hb); (try clear hb2); (try clear hk); (try clear hi)) | ((with_reducible refine gate_callee (f := 118) rfl ?_); refine goesL_ (some 19) rfl rfl Try.func118 (by kernel_rfl) rfl #[.int .i64 x3_1, .int .i64 t201] rfl ma_ ?_; (with_reducible refine (spec_l1Max.calls x3_1 t201 t202 _ A6.out).mono ?_); rintro e w' ⟨rfl, ⟨nd, rfl⟩⟩; refine ⟨_, rfl, ?_⟩))
     go_roundg k1
     case measure => have := HK1.out; omega
     case rel => exact ⟨(t202), (wrap64 (x4_1 + 1)), q_, q_, H', ⟨by have := HK1.out; omega⟩, ⟨K_ BK199.out⟩, ⟨B1_ HB.out GE199.out⟩⟩
    ·rw [if_neg c4] at H
     exact absurd H (by simp)
   ·rw [if_neg c3] at H
    have c3b0 : decide (x4_1 < (l0_2.length : Int)) = false := decide_eq_false c3
    clear c3
    obtain rfl := Option.some.inj H
    obtain ⟨hcz9_0, hcz9_1, hcz9_2, hfz9_0, hfz9_1, hfz9_2⟩ := box3_ BK199.out
    go_wp2
    go_ret
    exact ⟨er_, B1_ HB.out GE199.out⟩

/-! ### spec_l3Form: function 82 -/
mutual
def spec_l3Form.l0 : Nat → Int → Int → List ByteArray → List (S44) → Option (Bool)
 | 0, _, _, _, _ => none
 | k + 1, x3, x204000, x204001, x204002 => if x3 < (x204002.length : Int) then (if 0 ≤ x3 then ((spec_l3Form.f k ((rd_T44 x204002 x3).f0) ((rd_T44 x204002 x3).f1) ((rd_T44 x204002 x3).f2)).bind fun t205 => (if t205 = true then (spec_l3Form.l0 k (wrap64 (x3 + 1)) x204000 x204001 x204002) else (some false))) else (none)) else (if x204000 = 1 then (spec_l3Form.j1 k x204000 (x204000 == 1) x204000 x204001 x204002) else (spec_l3Form.j1 k x204000 (x204000 == 2) x204000 x204001 x204002))
def spec_l3Form.j1 : Nat → Int → Bool → Int → List ByteArray → List (S44) → Option (Bool)
 | 0, _, _, _, _, _ => none
 | k + 1, x19, x20, x204000, x204001, x204002 => if x20 = true then (if (x204001.length : Int) = 0 then (some ((x204002.length : Int) == 0)) else (some false)) else (if x19 = 3 then (spec_l3Form.j2 k x19 (x19 == 3) x204000 x204001 x204002) else (spec_l3Form.j2 k x19 (x19 == 4) x204000 x204001 x204002))
def spec_l3Form.j2 : Nat → Int → Bool → Int → List ByteArray → List (S44) → Option (Bool)
 | 0, _, _, _, _, _ => none
 | k + 1, x19, x33, x204000, x204001, x204002 => if x33 = true then (if (x204002.length : Int) = (x204001.length : Int) then ((spec_l3Labels.f k x204001).bind fun t206 => (some t206)) else (some false)) else (if x19 = 5 then (if (x204001.length : Int) = 0 then (some ((x204002.length : Int) == 1)) else (some false)) else (some false))
def spec_l3Form.f : Nat → Int → List ByteArray → List (S44) → Option (Bool)
 | 0, _, _, _ => none
 | k + 1, a0_0, l0_1, l0_2 => spec_l3Form.l0 k 0 a0_0 l0_1 l0_2
end
theorem spec_l3Form.mono_l : ∀ k, (∀ y0 y1 y2, LeO (spec_l3Form.f k y0 y1 y2) (spec_l3Form.f (k + 1) y0 y1 y2)) ∧ (∀ y0 y1 y2 y3, LeO (spec_l3Form.l0 k y0 y1 y2 y3) (spec_l3Form.l0 (k + 1) y0 y1 y2 y3)) ∧ (∀ y0 y1 y2 y3 y4, LeO (spec_l3Form.j1 k y0 y1 y2 y3 y4) (spec_l3Form.j1 (k + 1) y0 y1 y2 y3 y4)) ∧ (∀ y0 y1 y2 y3 y4, LeO (spec_l3Form.j2 k y0 y1 y2 y3 y4) (spec_l3Form.j2 (k + 1) y0 y1 y2 y3 y4))
 | 0 => ⟨fun _ _ _ r h => by simp [spec_l3Form.f] at h, fun _ _ _ _ r h => by simp [spec_l3Form.l0] at h, fun _ _ _ _ _ r h => by simp [spec_l3Form.j1] at h, fun _ _ _ _ _ r h => by simp [spec_l3Form.j2] at h⟩
 | k + 1 => by
  obtain ⟨ih0, ih1, ih2, ih3⟩ := spec_l3Form.mono_l k
  refine ⟨?_, ?_, ?_, ?_⟩
  ·intro y0 y1 y2
   unfold spec_l3Form.f
   repeat' first
   | (with_reducible exact ih0 _ _ _)
   | (with_reducible exact ih1 _ _ _ _)
   | (with_reducible exact ih2 _ _ _ _ _)
   | (with_reducible exact ih3 _ _ _ _ _)
   | (with_reducible exact spec_l3Labels.mono _ _)
   | (with_reducible exact LeO.refl _)
   | (with_reducible exact LeO.none _)
   | (with_reducible refine LeO.ite ?_ ?_)
   | (with_reducible refine LeO.bind ?_ (fun _ => ?_))
   | exact ih0 _ _ _
   | exact ih1 _ _ _ _
   | exact ih2 _ _ _ _ _
   | exact ih3 _ _ _ _ _
   | exact spec_l3Labels.mono _ _
   | exact LeO.none _
   | refine LeO.ite ?_ ?_
   | refine LeO.bind ?_ (fun _ => ?_)
  ·intro y0 y1 y2 y3
   unfold spec_l3Form.l0
   repeat' first
   | (with_reducible exact ih0 _ _ _)
   | (with_reducible exact ih1 _ _ _ _)
   | (with_reducible exact ih2 _ _ _ _ _)
   | (with_reducible exact ih3 _ _ _ _ _)
   | (with_reducible exact spec_l3Labels.mono _ _)
   | (with_reducible exact LeO.refl _)
   | (with_reducible exact LeO.none _)
   | (with_reducible refine LeO.ite ?_ ?_)
   | (with_reducible refine LeO.bind ?_ (fun _ => ?_))
   | exact ih0 _ _ _
   | exact ih1 _ _ _ _
   | exact ih2 _ _ _ _ _
   | exact ih3 _ _ _ _ _
   | exact spec_l3Labels.mono _ _
   | exact LeO.none _
   | refine LeO.ite ?_ ?_
   | refine LeO.bind ?_ (fun _ => ?_)
  ·intro y0 y1 y2 y3 y4
   unfold spec_l3Form.j1
   repeat' first
   | (with_reducible exact ih0 _ _ _)
   | (with_reducible exact ih1 _ _ _ _)
   | (with_reducible exact ih2 _ _ _ _ _)
   | (with_reducible exact ih3 _ _ _ _ _)
   | (with_reducible exact spec_l3Labels.mono _ _)
   | (with_reducible exact LeO.refl _)
   | (with_reducible exact LeO.none _)
   | (with_reducible refine LeO.ite ?_ ?_)
   | (with_reducible refine LeO.bind ?_ (fun _ => ?_))
   | exact ih0 _ _ _
   | exact ih1 _ _ _ _
   | exact ih2 _ _ _ _ _
   | exact ih3 _ _ _ _ _
   | exact spec_l3Labels.mono _ _
   | exact LeO.none _
   | refine LeO.ite ?_ ?_
   | refine LeO.bind ?_ (fun _ => ?_)
  ·intro y0 y1 y2 y3 y4
   unfold spec_l3Form.j2
   repeat' first
   | (with_reducible exact ih0 _ _ _)
   | (with_reducible exact ih1 _ _ _ _)
   | (with_reducible exact ih2 _ _ _ _ _)
   | (with_reducible exact ih3 _ _ _ _ _)
   | (with_reducible exact spec_l3Labels.mono _ _)
   | (with_reducible exact LeO.refl _)
   | (with_reducible exact LeO.none _)
   | (with_reducible refine LeO.ite ?_ ?_)
   | (with_reducible refine LeO.bind ?_ (fun _ => ?_))
   | exact ih0 _ _ _
   | exact ih1 _ _ _ _
   | exact ih2 _ _ _ _ _
   | exact ih3 _ _ _ _ _
   | exact spec_l3Labels.mono _ _
   | exact LeO.none _
   | refine LeO.ite ?_ ?_
   | refine LeO.bind ?_ (fun _ => ?_)
theorem spec_l3Form.mono : ∀ a0 a1 a2 k, LeO (spec_l3Form.f k a0 a1 a2) (spec_l3Form.f (k + 1) a0 a1 a2) := by
 intro a0 a1 a2 k
 obtain ⟨ih0, ih1, ih2, ih3⟩ := spec_l3Form.mono_l k
 exact ih0 a0 a1 a2
set_option maxHeartbeats 8000000 in
set_option maxRecDepth 100000 in
theorem spec_l3Form.calls (k : Nat) : ∀ (a0_0 : Int) (A0_1 : Option Addr) (c0_1 : Nat) (l0_1 : List ByteArray) (A0_2 : Option Addr) (c0_2 : Nat) (l0_2 : List (S44)) (r : Bool) (w : World) (hr0_1 : Kd.C Kd.string w A0_1 l0_1.length l0_1) (hc0_1 : l0_1.length ≤ c0_1) (hr0_2 : Kd.C k44 w A0_2 l0_2.length l0_2) (hc0_2 : l0_2.length ≤ c0_2) (h : spec_l3Form.f k a0_0 l0_1 l0_2 = some r),
  Calls Try.prog 82 #[.agg #[.int .i64 a0_0, .slice A0_1 l0_1.length c0_1, .slice A0_2 l0_2.length c0_2]] w fun e w' => e = .returned (.bool r) ∧ Below w.heap.size w w' := by
 induction k using Nat.strongRecOn with
 | _ k ih =>
 intro a0_0 A0_1 c0_1 l0_1 A0_2 c0_2 l0_2 r w hr0_1 hc0_1 hr0_2 hc0_2 h
 cases k with
 | zero => exact absurd h (by simp [spec_l3Form.f])
 | succ k =>
 simp only [spec_l3Form.f] at h
 have hu44 := Try.underlying44
 have HR0_1 := Aside0.mk hr0_1
 have HC0_1 := Aside0.mk hc0_1
 clear hr0_1 hc0_1
 have HR0_2 := Aside0.mk hr0_2
 have HC0_2 := Aside0.mk hc0_2
 clear hr0_2 hc0_2
 have HB := Aside0.mk (Below.refl w.heap.size w)
 have H : (spec_l3Form.l0 k 0 a0_0 l0_1 l0_2) = some r := h
 clear h
 have H' := Aside0.mk H
 clear H
 go_enter Try.func82, Try.ntmps82
 go_wp2_with (first | ((with_reducible refine gate_dst (N := 1) rfl ?_); (try (refine gate_guard (by rfl) ?_; dsimp only)); refine box_event ?hg (N := 1) ?hd (cs := #[.int .i64 a0_0, .slice A0_1 l0_1.length c0_1, .slice A0_2 l0_2.length c0_2]) (t := 44) ?hr ?_; (case hd => rfl); (case hg => rfl); (case hr => first | (go_simp; done) | (go_simp; rfl)); intro gb203 hg w2 hbox hb; have BK203 := Aside0.mk (hbox); have GW203 := Aside0.mk ((by rw [hg]; exact (below_size (B0_ HB.out)) : w.heap.size ≤ gb203)); have GE203 := Aside0.mk ((by rw [hg]; exact (below_size (B0_ HB.out)) : w.heap.size ≤ gb203)); replace HB := Aside0.mk (below_step (B0_ HB.out) hb); clear hb hbox hg))
 go_loopg [3] k (fun kq v3 w' => ∃ (x3_1 : Int), v3 = .int .i64 x3_1 ∧ Aside0 (spec_l3Form.l0 kq x3_1 a0_0 l0_1 l0_2 = some r) ∧ Aside0 (kq ≤ k) ∧ Aside0 (w'.heap[gb203]? = some (.cells #[.int .i64 a0_0, (.slice A0_1 l0_1.length c0_1), (.slice A0_2 l0_2.length c0_2)] 44 (0, 0))) ∧ Aside0 (Below w.heap.size w w'))
 case atStart => exact ⟨(0), q_, H', ⟨Nat.le_refl _⟩, ⟨K_ BK203.out⟩, ⟨B1_ HB.out GE203.out⟩⟩
 case round =>
  clear H'
  obtain ⟨x3_1, rfl, HA, HK1, BK203, HB⟩ := hrel
  cases gk with
  | zero => exact absurd HA.out (by simp [spec_l3Form.l0])
  | succ k1 =>
   have H := HA.out
   clear HA
   simp only [spec_l3Form.l0] at H
   by_cases c3 : x3_1 < (l0_2.length : Int)
   ·rw [if_pos c3] at H
    have c3b0 : decide (x3_1 < (l0_2.length : Int)) = true := decide_eq_true c3
    clear c3
    by_cases c4 : 0 ≤ x3_1
    ·rw [if_pos c4] at H
     have c4b0 : decide (0 ≤ x3_1) = true := decide_eq_true c4
     clear c4
     replace H := Option.bind_eq_some_iff.mp H
     obtain ⟨t205, A50, H⟩ := H
     replace H : (if t205 = true then (spec_l3Form.l0 k1 (wrap64 (x3_1 + 1)) a0_0 l0_1 l0_2) else (some false)) = some r := H
     have A5 := Aside0.mk A50
     clear A50
     by_cases c6 : t205 = true
     ·subst c6
      have H1 : (spec_l3Form.l0 k1 (wrap64 (x3_1 + 1)) a0_0 l0_1 l0_2) = some r := by rw [if_pos rfl] at H; exact H
      clear H
      have H := H1
      clear H1
      have H' := Aside0.mk H
      clear H
      obtain ⟨hcz7_0, hcz7_1, hcz7_2, hfz7_0, hfz7_1, hfz7_2⟩ := box3_ BK203.out
      have p204 : 0 ≤ (x3_1 : Int) := de_
      have q204 : x3_1 < (l0_2.length : Int) := de_
      obtain ⟨ad204, A204_1, c204_1, A204_2, c204_2, e204, hx204_0, hx204_1, hx204_2, hl204_1, hi204_1, hl204_2, hi204_2⟩ := at_T44 HR0_2.out x3_1 p204 q204
      cases e204
      replace hx204_0 := (HB.out.cell (World.block_lt_of_cell? w _ hx204_0)).trans hx204_0
      replace hx204_1 := (HB.out.cell (World.block_lt_of_cell? w _ hx204_1)).trans hx204_1
      replace hx204_2 := (HB.out.cell (World.block_lt_of_cell? w _ hx204_2)).trans hx204_2
      have HR204_1 := Aside0.mk hi204_1
      have HC204_1 := Aside0.mk hl204_1
      clear hi204_1 hl204_1
      have HR204_2 := Aside0.mk hi204_2
      have HC204_2 := Aside0.mk hl204_2
      clear hi204_2 hl204_2
      replace p204 := eq_true p204
      replace q204 := eq_true q204
      go_wp2_with (first | ((with_reducible refine gate_callee (f := 82) rfl ?_); refine goesL_ (some 16) rfl rfl Try.func82 (by kernel_rfl) rfl #[.agg #[.int .i64 ((rd_T44 l0_2 x3_1).f0), .slice A204_1 ((rd_T44 l0_2 x3_1).f1).length c204_1, .slice A204_2 ((rd_T44 l0_2 x3_1).f2).length c204_2]] rfl ma_ ?_; (with_reducible refine (ih k1 (by have := HK1.out; omega) ((rd_T44 l0_2 x3_1).f0) _ _ ((rd_T44 l0_2 x3_1).f1) _ _ ((rd_T44 l0_2 x3_1).f2) true _ ?side1 ?side2 ?side3 ?side4 A5.out).mono ?_); (case side1 => exact C_ (Kd.C_below HR204_1.out HB.out)); (case side2 => exact HC204_1.out); (case side3 => exact C_ (Kd.C_below HR204_2.out HB.out)); (case side4 => exact HC204_2.out); rintro e w8 ⟨rfl, hb⟩; refine ⟨_, rfl, ?_⟩; replace BK203 := Aside0.mk (blk_below (K_ BK203.out) hb); replace HB := Aside0.mk (below_step (B1_ HB.out GE203.out) hb); (try clear hb); (try clear hb2); (try clear hk); (try clear hi)))
      go_roundg k1
      case measure => have := HK1.out; omega
      case rel => exact ⟨(wrap64 (x3_1 + 1)), q_, H', ⟨by have := HK1.out; omega⟩, ⟨K_ BK203.out⟩, ⟨B1_ HB.out GE203.out⟩⟩
     ·replace c6 := Bool.eq_false_iff.mpr c6
      subst c6
      have H1 : (some false) = some r := by rw [if_neg (show ¬ (false = true) by decide)] at H; exact H
      clear H
      have H := H1
      clear H1
      obtain rfl := Option.some.inj H
      obtain ⟨hcz9_0, hcz9_1, hcz9_2, hfz9_0, hfz9_1, hfz9_2⟩ := box3_ BK203.out
      have p204 : 0 ≤ (x3_1 : Int) := de_
      have q204 : x3_1 < (l0_2.length : Int) := de_
      obtain ⟨ad204, A204_1, c204_1, A204_2, c204_2, e204, hx204_0, hx204_1, hx204_2, hl204_1, hi204_1, hl204_2, hi204_2⟩ := at_T44 HR0_2.out x3_1 p204 q204
      cases e204
      replace hx204_0 := (HB.out.cell (World.block_lt_of_cell? w _ hx204_0)).trans hx204_0
      replace hx204_1 := (HB.out.cell (World.block_lt_of_cell? w _ hx204_1)).trans hx204_1
      replace hx204_2 := (HB.out.cell (World.block_lt_of_cell? w _ hx204_2)).trans hx204_2
      have HR204_1 := Aside0.mk hi204_1
      have HC204_1 := Aside0.mk hl204_1
      clear hi204_1 hl204_1
      have HR204_2 := Aside0.mk hi204_2
      have HC204_2 := Aside0.mk hl204_2
      clear hi204_2 hl204_2
      replace p204 := eq_true p204
      replace q204 := eq_true q204
      go_wp2_with (first | ((with_reducible refine gate_callee (f := 82) rfl ?_); refine goesL_ (some 16) rfl rfl Try.func82 (by kernel_rfl) rfl #[.agg #[.int .i64 ((rd_T44 l0_2 x3_1).f0), .slice A204_1 ((rd_T44 l0_2 x3_1).f1).length c204_1, .slice A204_2 ((rd_T44 l0_2 x3_1).f2).length c204_2]] rfl ma_ ?_; (with_reducible refine (ih k1 (by have := HK1.out; omega) ((rd_T44 l0_2 x3_1).f0) _ _ ((rd_T44 l0_2 x3_1).f1) _ _ ((rd_T44 l0_2 x3_1).f2) false _ ?side1 ?side2 ?side3 ?side4 A5.out).mono ?_); (case side1 => exact C_ (Kd.C_below HR204_1.out HB.out)); (case side2 => exact HC204_1.out); (case side3 => exact C_ (Kd.C_below HR204_2.out HB.out)); (case side4 => exact HC204_2.out); rintro e w10 ⟨rfl, hb⟩; refine ⟨_, rfl, ?_⟩; replace BK203 := Aside0.mk (blk_below (K_ BK203.out) hb); replace HB := Aside0.mk (below_step (B1_ HB.out GE203.out) hb); (try clear hb); (try clear hb2); (try clear hk); (try clear hi)))
      go_ret
      exact ⟨er_, B1_ HB.out GE203.out⟩
    ·rw [if_neg c4] at H
     exact absurd H (by simp)
   ·rw [if_neg c3] at H
    have c3b0 : decide (x3_1 < (l0_2.length : Int)) = false := decide_eq_false c3
    clear c3
    have HC11 := Aside0.mk H
    clear H
    obtain ⟨hcz12_0, hcz12_1, hcz12_2, hfz12_0, hfz12_1, hfz12_2⟩ := box3_ BK203.out
    go_upto_if 20 with (fail)
    go_cut [20] (fun v20 wc => ∃ (kq : Nat) (x20_10 : Bool), v20 = .bool x20_10 ∧ Aside0 (spec_l3Form.j1 kq a0_0 x20_10 a0_0 l0_1 l0_2 = some r) ∧ Aside0 (kq ≤ k1) ∧ Aside0 (wc.heap[gb203]? = some (.cells #[.int .i64 a0_0, (.slice A0_1 l0_1.length c0_1), (.slice A0_2 l0_2.length c0_2)] 44 (0, 0))) ∧ Aside0 (Below w.heap.size w wc))
    case first =>
     have H := HC11.out
     clear HC11
     by_cases c13 : a0_0 = 1
     ·rw [if_pos c13] at H
      have c13b0 : (a0_0 == 1) = true := beq_iff_eq.mpr c13
      have c13b1 : (a0_0 != 1) = false := bne_eq_false_iff_eq.mpr c13
      clear c13
      (first | rw [c13b0] | (simp only [i64_w, i32_w]; rw [c13b0]) | skip)
      have H' := Aside0.mk H
      clear H
      go_wp2
      go_meet
      case rel => exact ⟨_, ((a0_0 == 1)), q_, H', ⟨by have := HK1.out; first | omega | exact Nat.le_refl _⟩, ⟨K_ BK203.out⟩, ⟨B1_ HB.out GE203.out⟩⟩
     ·rw [if_neg c13] at H
      have c13b0 : (a0_0 == 1) = false := beq_eq_false_iff_ne.mpr c13
      have c13b1 : (a0_0 != 1) = true := bne_iff_ne.mpr c13
      (first | rw [c13b0] | (simp only [i64_w, i32_w]; rw [c13b0]) | skip)
      have H' := Aside0.mk H
      clear H
      go_wp2
      go_meet
      case rel => exact ⟨_, ((a0_0 == 2)), q_, H', ⟨by have := HK1.out; first | omega | exact Nat.le_refl _⟩, ⟨K_ BK203.out⟩, ⟨B1_ HB.out GE203.out⟩⟩
    case rest =>
     clear HC11
     try clear c3
     try clear c3b0
     try clear hcz12_0
     try clear hcz12_1
     try clear hcz12_2
     try clear hfz12_0
     try clear hfz12_1
     try clear hfz12_2
     obtain ⟨kq, x20_10, rfl, HA, HJ10, BK203, HB⟩ := hcut
     cases kq with
     | zero => exact absurd HA.out (by simp [spec_l3Form.j1])
     | succ kj10 =>
      have H := HA.out
      clear HA
      simp only [spec_l3Form.j1] at H
      by_cases c14 : x20_10 = true
      ·subst c14
       have H1 : (if (l0_1.length : Int) = 0 then (some ((l0_2.length : Int) == 0)) else (some false)) = some r := by rw [if_pos rfl] at H; exact H
       clear H
       have H := H1
       clear H1
       by_cases c15 : (l0_1.length : Int) = 0
       ·rw [if_pos c15] at H
        have c15b0 : ((l0_1.length : Int) == 0) = true := beq_iff_eq.mpr c15
        have c15b1 : ((l0_1.length : Int) != 0) = false := bne_eq_false_iff_eq.mpr c15
        clear c15
        obtain rfl := Option.some.inj H
        obtain ⟨hcz16_0, hcz16_1, hcz16_2, hfz16_0, hfz16_1, hfz16_2⟩ := box3_ BK203.out
        go_wp2
        go_ret
        exact ⟨er_, B1_ HB.out GE203.out⟩
       ·rw [if_neg c15] at H
        have c15b0 : ((l0_1.length : Int) == 0) = false := beq_eq_false_iff_ne.mpr c15
        have c15b1 : ((l0_1.length : Int) != 0) = true := bne_iff_ne.mpr c15
        have c15b2 : ¬ (l0_1 = []) := fun h_ => c15 (by rw [h_]; rfl)
        obtain rfl := Option.some.inj H
        obtain ⟨hcz17_0, hcz17_1, hcz17_2, hfz17_0, hfz17_1, hfz17_2⟩ := box3_ BK203.out
        go_wp2
        go_ret
        exact ⟨er_, B1_ HB.out GE203.out⟩
      ·replace c14 := Bool.eq_false_iff.mpr c14
       subst c14
       have H1 : (if a0_0 = 3 then (spec_l3Form.j2 kj10 a0_0 (a0_0 == 3) a0_0 l0_1 l0_2) else (spec_l3Form.j2 kj10 a0_0 (a0_0 == 4) a0_0 l0_1 l0_2)) = some r := by rw [if_neg (show ¬ (false = true) by decide)] at H; exact H
       clear H
       have H := H1
       clear H1
       have HC18 := Aside0.mk H
       clear H
       go_upto_if 33 with (fail)
       go_cut [33] (fun v33 wc => ∃ (kq : Nat) (x33_17 : Bool), v33 = .bool x33_17 ∧ Aside0 (spec_l3Form.j2 kq a0_0 x33_17 a0_0 l0_1 l0_2 = some r) ∧ Aside0 (kq ≤ kj10) ∧ Aside0 (wc.heap[gb203]? = some (.cells #[.int .i64 a0_0, (.slice A0_1 l0_1.length c0_1), (.slice A0_2 l0_2.length c0_2)] 44 (0, 0))) ∧ Aside0 (Below w.heap.size w wc))
       case first =>
        have H := HC18.out
        clear HC18
        by_cases c19 : a0_0 = 3
        ·rw [if_pos c19] at H
         have c19b0 : (a0_0 == 3) = true := beq_iff_eq.mpr c19
         have c19b1 : (a0_0 != 3) = false := bne_eq_false_iff_eq.mpr c19
         clear c19
         (first | rw [c19b0] | (simp only [i64_w, i32_w]; rw [c19b0]) | skip)
         have H' := Aside0.mk H
         clear H
         go_wp2
         go_meet
         case rel => exact ⟨_, ((a0_0 == 3)), q_, H', ⟨by have := HK1.out; have := HJ10.out; first | omega | exact Nat.le_refl _⟩, ⟨K_ BK203.out⟩, ⟨B1_ HB.out GE203.out⟩⟩
        ·rw [if_neg c19] at H
         have c19b0 : (a0_0 == 3) = false := beq_eq_false_iff_ne.mpr c19
         have c19b1 : (a0_0 != 3) = true := bne_iff_ne.mpr c19
         (first | rw [c19b0] | (simp only [i64_w, i32_w]; rw [c19b0]) | skip)
         have H' := Aside0.mk H
         clear H
         go_wp2
         go_meet
         case rel => exact ⟨_, ((a0_0 == 4)), q_, H', ⟨by have := HK1.out; have := HJ10.out; first | omega | exact Nat.le_refl _⟩, ⟨K_ BK203.out⟩, ⟨B1_ HB.out GE203.out⟩⟩
       case rest =>
        clear HC18
        try clear c3
        try clear c3b0
        try clear c14
        try clear hcz12_0
        try clear hcz12_1
        try clear hcz12_2
        try clear hfz12_0
        try clear hfz12_1
        try clear hfz12_2
        obtain ⟨kq, x33_17, rfl, HA, HJ17, BK203, HB⟩ := hcut
        cases kq with
        | zero => exact absurd HA.out (by simp [spec_l3Form.j2])
        | succ kj17 =>
         have H := HA.out
         clear HA
         simp only [spec_l3Form.j2] at H
         by_cases c20 : x33_17 = true
         ·subst c20
          have H1 : (if (l0_2.length : Int) = (l0_1.length : Int) then ((spec_l3Labels.f kj17 l0_1).bind fun t206 => (some t206)) else (some false)) = some r := by rw [if_pos rfl] at H; exact H
          clear H
          have H := H1
          clear H1
          by_cases c21 : (l0_2.length : Int) = (l0_1.length : Int)
          ·rw [if_pos c21] at H
           have c21b0 : ((l0_2.length : Int) == (l0_1.length : Int)) = true := beq_iff_eq.mpr c21
           have c21b1 : ((l0_2.length : Int) != (l0_1.length : Int)) = false := bne_eq_false_iff_eq.mpr c21
           have c21b2 : (l0_2.length == l0_1.length) = true := by first | simpa using c21 | (simp at c21 ⊢; omega)
           clear c21
           replace H := Option.bind_eq_some_iff.mp H
           obtain ⟨t206, A220, H⟩ := H
           replace H : (some t206) = some r := H
           have A22 := Aside0.mk A220
           clear A220
           obtain rfl := Option.some.inj H
           obtain ⟨hcz23_0, hcz23_1, hcz23_2, hfz23_0, hfz23_1, hfz23_2⟩ := box3_ BK203.out
           go_wp2_with (first | (go_at_call 86; (with_reducible refine (spec_l3Labels.calls kj17 _ _ l0_1 t206 _ ?side1 ?side2 A22.out).mono ?_); (case side1 => exact C_ (Kd.C_below HR0_1.out HB.out)); (case side2 => exact HC0_1.out); rintro e w' ⟨rfl, ⟨nd, rfl⟩⟩))
           go_ret
           exact ⟨er_, B1_ HB.out GE203.out⟩
          ·rw [if_neg c21] at H
           have c21b0 : ((l0_2.length : Int) == (l0_1.length : Int)) = false := beq_eq_false_iff_ne.mpr c21
           have c21b1 : ((l0_2.length : Int) != (l0_1.length : Int)) = true := bne_iff_ne.mpr c21
           have c21b2 : (l0_2.length == l0_1.length) = false := by first | simpa using c21 | (simp at c21 ⊢; omega)
           obtain rfl := Option.some.inj H
           obtain ⟨hcz24_0, hcz24_1, hcz24_2, hfz24_0, hfz24_1, hfz24_2⟩ := box3_ BK203.out
           go_wp2
           go_ret
           exact ⟨er_, B1_ HB.out GE203.out⟩
         ·replace c20 := Bool.eq_false_iff.mpr c20
          subst c20
          have H1 : (if a0_0 = 5 then (if (l0_1.length : Int) = 0 then (some ((l0_2.length : Int) == 1)) else (some false)) else (some false)) = some r := by rw [if_neg (show ¬ (false = true) by decide)] at H; exact H
          clear H
          have H := H1
          clear H1
          by_cases c25 : a0_0 = 5
          ·rw [if_pos c25] at H
           have c25b0 : (a0_0 == 5) = true := beq_iff_eq.mpr c25
           have c25b1 : (a0_0 != 5) = false := bne_eq_false_iff_eq.mpr c25
           clear c25
           by_cases c26 : (l0_1.length : Int) = 0
           ·rw [if_pos c26] at H
            have c26b0 : ((l0_1.length : Int) == 0) = true := beq_iff_eq.mpr c26
            have c26b1 : ((l0_1.length : Int) != 0) = false := bne_eq_false_iff_eq.mpr c26
            clear c26
            obtain rfl := Option.some.inj H
            obtain ⟨hcz27_0, hcz27_1, hcz27_2, hfz27_0, hfz27_1, hfz27_2⟩ := box3_ BK203.out
            go_wp2
            go_ret
            exact ⟨er_, B1_ HB.out GE203.out⟩
           ·rw [if_neg c26] at H
            have c26b0 : ((l0_1.length : Int) == 0) = false := beq_eq_false_iff_ne.mpr c26
            have c26b1 : ((l0_1.length : Int) != 0) = true := bne_iff_ne.mpr c26
            have c26b2 : ¬ (l0_1 = []) := fun h_ => c26 (by rw [h_]; rfl)
            obtain rfl := Option.some.inj H
            obtain ⟨hcz28_0, hcz28_1, hcz28_2, hfz28_0, hfz28_1, hfz28_2⟩ := box3_ BK203.out
            go_wp2
            go_ret
            exact ⟨er_, B1_ HB.out GE203.out⟩
          ·rw [if_neg c25] at H
           have c25b0 : (a0_0 == 5) = false := beq_eq_false_iff_ne.mpr c25
           have c25b1 : (a0_0 != 5) = true := bne_iff_ne.mpr c25
           obtain rfl := Option.some.inj H
           go_wp2
           go_ret
           exact ⟨er_, B1_ HB.out GE203.out⟩

end Go.Proofs.Ytmelflbbeecjfaa.XB
