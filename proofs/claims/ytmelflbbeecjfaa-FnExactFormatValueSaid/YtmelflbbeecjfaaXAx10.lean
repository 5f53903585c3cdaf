-- Written by myprint.py, a program of this session, which runs the kit's printer with changes of its own. Lean checks it.
import Derived.Test.YtmelflbbeecjfaaXAx0
import Derived.Test.YtmelflbbeecjfaaXAx9
namespace Go.Proofs.Ytmelflbbeecjfaa.XA
open Go.RowKit Go.Proofs.YtmelflbbeecjfaaW.PrintWords Go.Proofs.YtmelflbbeecjfaaW.PrintLast Go.Proofs.YtmelflbbeecjfaaW.PrintMore
attribute [local go_sem] max2_int min2_int max_two min_two max_three min_three max_four min_four   -- for this text's walks alone
set_option linter.unusedVariables false
set_option linter.unusedSimpArgs false

/-! ### spec_l5Form: function 53 -/
mutual
def spec_l5Form.l0 : Nat → Int → Int → Int → ByteArray → List ByteArray → List (S30) → Option (Bool)
  | 0, _, _, _, _, _, _ => none
  | k + 1, x3, x276000, x276001, x276002, x276003, x276004 => if x3 < (x276004.length : Int) then (if 0 ≤ x3 then ((spec_l5Form.f k ((rd_T30 x276004 x3).f0) ((rd_T30 x276004 x3).f1) ((rd_T30 x276004 x3).f2) ((rd_T30 x276004 x3).f3) ((rd_T30 x276004 x3).f4)).bind fun t277 => (if t277 = true then (spec_l5Form.l0 k (wrap64 (x3 + 1)) x276000 x276001 x276002 x276003 x276004) else (some false))) else (none)) else ((spec_IsName.f k x276002).bind fun t278 => (if ((x276000 == 4) != t278) = true then (spec_l5Form.j1 k true x276000 x276001 x276002 x276003 x276004) else (if x276000 = 4 then (if x276000 = 3 then (spec_l5Form.j1 k false x276000 x276001 x276002 x276003 x276004) else (spec_l5Form.j1 k (decide ((x276003.length : Int) > 0)) x276000 x276001 x276002 x276003 x276004)) else (if x276002.toList = ([] : List UInt8) then (if x276000 = 3 then (spec_l5Form.j1 k false x276000 x276001 x276002 x276003 x276004) else (spec_l5Form.j1 k (decide ((x276003.length : Int) > 0)) x276000 x276001 x276002 x276003 x276004)) else (spec_l5Form.j1 k true x276000 x276001 x276002 x276003 x276004)))))
def spec_l5Form.j1 : Nat → Bool → Int → Int → ByteArray → List ByteArray → List (S30) → Option (Bool)
  | 0, _, _, _, _, _, _ => none
  | k + 1, x46, x276000, x276001, x276002, x276003, x276004 => if x46 = true then (some false) else (if x276000 = 1 then (some ((x276004.length : Int) == 0)) else (if x276000 = 2 then (if (x276004.length : Int) = 0 then ((spec_l1In.f x276001 0 1).bind fun t279 => (some t279)) else (some false)) else (if x276000 = 3 then (if x276001 = 0 then (if (x276003.length : Int) = (x276004.length : Int) then ((spec_l3Labels.f k x276003).bind fun t280 => (some t280)) else (some false)) else (some false)) else (if x276000 = 4 then (if x276001 = 0 then (some ((x276004.length : Int) == 1)) else (some false)) else (if x276000 = 5 then (some (x276001 == 0)) else (some false))))))
def spec_l5Form.f : Nat → Int → Int → ByteArray → List ByteArray → List (S30) → Option (Bool)
  | 0, _, _, _, _, _ => none
  | k + 1, a0_0, a0_1, a0_2, l0_3, l0_4 => spec_l5Form.l0 k 0 a0_0 a0_1 a0_2 l0_3 l0_4
end
theorem spec_l5Form.mono_l : ∀ k, (∀ y0 y1 y2 y3 y4, LeO (spec_l5Form.f k y0 y1 y2 y3 y4) (spec_l5Form.f (k + 1) y0 y1 y2 y3 y4)) ∧ (∀ y0 y1 y2 y3 y4 y5, LeO (spec_l5Form.l0 k y0 y1 y2 y3 y4 y5) (spec_l5Form.l0 (k + 1) y0 y1 y2 y3 y4 y5)) ∧ (∀ y0 y1 y2 y3 y4 y5, LeO (spec_l5Form.j1 k y0 y1 y2 y3 y4 y5) (spec_l5Form.j1 (k + 1) y0 y1 y2 y3 y4 y5))
  | 0 => ⟨fun _ _ _ _ _ r h => by simp [spec_l5Form.f] at h, fun _ _ _ _ _ _ r h => by simp [spec_l5Form.l0] at h, fun _ _ _ _ _ _ r h => by simp [spec_l5Form.j1] at h⟩
  | k + 1 => by
    obtain ⟨ih0, ih1, ih2⟩ := spec_l5Form.mono_l k
    refine ⟨?_, ?_, ?_⟩
    · intro y0 y1 y2 y3 y4
      unfold spec_l5Form.f
      repeat' first
      | (with_reducible exact ih0 _ _ _ _ _)
      | (with_reducible exact ih1 _ _ _ _ _ _)
      | (with_reducible exact ih2 _ _ _ _ _ _)
      | (with_reducible exact spec_IsName.mono _ _)
      | (with_reducible exact spec_l3Labels.mono _ _)
      | (with_reducible exact LeO.refl _)
      | (with_reducible exact LeO.none _)
      | (with_reducible refine LeO.ite ?_ ?_)
      | (with_reducible refine LeO.bind ?_ (fun _ => ?_))
      | exact ih0 _ _ _ _ _
      | exact ih1 _ _ _ _ _ _
      | exact ih2 _ _ _ _ _ _
      | exact spec_IsName.mono _ _
      | exact spec_l3Labels.mono _ _
      | exact LeO.none _
      | refine LeO.ite ?_ ?_
      | refine LeO.bind ?_ (fun _ => ?_)
    · intro y0 y1 y2 y3 y4 y5
      unfold spec_l5Form.l0
      repeat' first
      | (with_reducible exact ih0 _ _ _ _ _)
      | (with_reducible exact ih1 _ _ _ _ _ _)
      | (with_reducible exact ih2 _ _ _ _ _ _)
      | (with_reducible exact spec_IsName.mono _ _)
      | (with_reducible exact spec_l3Labels.mono _ _)
      | (with_reducible exact LeO.refl _)
      | (with_reducible exact LeO.none _)
      | (with_reducible refine LeO.ite ?_ ?_)
      | (with_reducible refine LeO.bind ?_ (fun _ => ?_))
      | exact ih0 _ _ _ _ _
      | exact ih1 _ _ _ _ _ _
      | exact ih2 _ _ _ _ _ _
      | exact spec_IsName.mono _ _
      | exact spec_l3Labels.mono _ _
      | exact LeO.none _
      | refine LeO.ite ?_ ?_
      | refine LeO.bind ?_ (fun _ => ?_)
    · intro y0 y1 y2 y3 y4 y5
      unfold spec_l5Form.j1
      repeat' first
      | (with_reducible exact ih0 _ _ _ _ _)
      | (with_reducible exact ih1 _ _ _ _ _ _)
      | (with_reducible exact ih2 _ _ _ _ _ _)
      | (with_reducible exact spec_IsName.mono _ _)
      | (with_reducible exact spec_l3Labels.mono _ _)
      | (with_reducible exact LeO.refl _)
      | (with_reducible exact LeO.none _)
      | (with_reducible refine LeO.ite ?_ ?_)
      | (with_reducible refine LeO.bind ?_ (fun _ => ?_))
      | exact ih0 _ _ _ _ _
      | exact ih1 _ _ _ _ _ _
      | exact ih2 _ _ _ _ _ _
      | exact spec_IsName.mono _ _
      | exact spec_l3Labels.mono _ _
      | exact LeO.none _
      | refine LeO.ite ?_ ?_
      | refine LeO.bind ?_ (fun _ => ?_)
theorem spec_l5Form.mono : ∀ a0 a1 a2 a3 a4 k, LeO (spec_l5Form.f k a0 a1 a2 a3 a4) (spec_l5Form.f (k + 1) a0 a1 a2 a3 a4) := by
  intro a0 a1 a2 a3 a4 k
  obtain ⟨ih0, ih1, ih2⟩ := spec_l5Form.mono_l k
  exact ih0 a0 a1 a2 a3 a4
set_option maxHeartbeats 8000000 in
set_option maxRecDepth 100000 in
theorem spec_l5Form.calls (k : Nat) : ∀ (a0_0 : Int) (a0_1 : Int) (a0_2 : ByteArray) (A0_3 : Option Addr) (c0_3 : Nat) (l0_3 : List ByteArray) (A0_4 : Option Addr) (c0_4 : Nat) (l0_4 : List (S30)) (r : Bool) (w : World) (hr0_3 : Kd.C Kd.string w A0_3 l0_3.length l0_3) (hc0_3 : l0_3.length ≤ c0_3) (hr0_4 : Kd.C k30 w A0_4 l0_4.length l0_4) (hc0_4 : l0_4.length ≤ c0_4) (h : spec_l5Form.f k a0_0 a0_1 a0_2 l0_3 l0_4 = some r),
    Calls Try.prog 53 #[.agg #[.int .i64 a0_0, .int .i64 a0_1, .string a0_2, .slice A0_3 l0_3.length c0_3, .slice A0_4 l0_4.length c0_4]] w fun e w' => e = .returned (.bool r) ∧ Below w.heap.size w w' := by
  induction k using Nat.strongRecOn with
  | _ k ih =>
  intro a0_0 a0_1 a0_2 A0_3 c0_3 l0_3 A0_4 c0_4 l0_4 r w hr0_3 hc0_3 hr0_4 hc0_4 h
  cases k with
  | zero => exact absurd h (by simp [spec_l5Form.f])
  | succ k =>
  simp only [spec_l5Form.f] at h
  have hu30 := Try.underlying30
  have HR0_3 := Aside0.mk hr0_3
  have HC0_3 := Aside0.mk hc0_3
  clear hr0_3 hc0_3
  have HR0_4 := Aside0.mk hr0_4
  have HC0_4 := Aside0.mk hc0_4
  clear hr0_4 hc0_4
  have HB := Aside0.mk (Below.refl w.heap.size w)
  have H : (spec_l5Form.l0 k 0 a0_0 a0_1 a0_2 l0_3 l0_4) = some r := h
  clear h
  have H' := Aside0.mk H
  clear H
  go_enter Try.func53, Try.ntmps53
  go_wp2_with (first | ((with_reducible refine gate_dst (N := 1) rfl ?_); (try (refine gate_guard (by rfl) ?_; dsimp only)); refine box_event ?hg (N := 1) ?hd (cs := #[.int .i64 a0_0, .int .i64 a0_1, .string a0_2, .slice A0_3 l0_3.length c0_3, .slice A0_4 l0_4.length c0_4]) (t := 30) ?hr ?_; (case hd => rfl); (case hg => rfl); (case hr => first | (go_simp; done) | (go_simp; rfl)); intro gb275 hg w2 hbox hb; have n0_ := Aside0.mk (below_step (by repeat (first | (with_reducible first | exact HB.out | apply below_alloc | apply pw_below_drewN | apply below_drew1) | exact HB.out)) hb); have n1_ := Aside0.mk (hbox); have n2_ := Aside0.mk ((by rw [hg]; exact (below_size (by repeat (first | (with_reducible first | exact HB.out | apply below_alloc | apply pw_below_drewN | apply below_drew1) | exact HB.out))) : w.heap.size ≤ gb275)); have n3_ := Aside0.mk ((by rw [hg]; exact (below_size (by repeat (first | (with_reducible first | exact HB.out | apply below_alloc | apply pw_below_drewN | apply below_drew1) | exact HB.out))) : w.heap.size ≤ gb275)); clear HB; have HB := n0_; have BK275 := n1_; have GW275 := n2_; have GE275 := n3_; clear n0_ n1_ n2_ n3_; clear hb hbox hg))
  go_loopg [3] k (fun kq v3 w' => ∃ (x3_1 : Int), v3 = .int .i64 x3_1 ∧ Aside0 (spec_l5Form.l0 kq x3_1 a0_0 a0_1 a0_2 l0_3 l0_4 = some r) ∧ Aside0 (kq ≤ k) ∧ Aside0 (w'.heap[gb275]? = some (.cells #[.int .i64 a0_0, .int .i64 a0_1, .string a0_2, (.slice A0_3 l0_3.length c0_3), (.slice A0_4 l0_4.length c0_4)] 30 (0, 0))) ∧ Aside0 (Below w.heap.size w w'))
  case atStart => exact ⟨(0), (by first | rfl | (simp; done) | (simp [*]; done)), H', ⟨Nat.le_refl _⟩, ⟨by (with_reducible repeat (first | refine blk_drewN ?_ _ | refine blk_drew ?_ | refine blk_alloc ?_ _)); exact BK275.out⟩, ⟨by repeat (first | (with_reducible first | exact HB.out | apply below_alloc | apply pw_below_drewN | apply below_drew1 | refine below_set ?_ GE275.out) | exact HB.out)⟩⟩
  case round =>
    clear H'
    try clear p2
    obtain ⟨x3_1, rfl, HA, HK1, BK275, HB⟩ := hrel
    cases gk with
    | zero => exact absurd HA.out (by simp [spec_l5Form.l0])
    | succ k1 =>
      have H := HA.out
      clear HA
      simp only [spec_l5Form.l0] at H
      by_cases c3 : x3_1 < (l0_4.length : Int)
      · rw [if_pos c3] at H
        have c3b0 : decide (x3_1 < (l0_4.length : Int)) = true := decide_eq_true c3
        clear c3
        by_cases c4 : 0 ≤ x3_1
        · rw [if_pos c4] at H
          have c4b0 : decide (0 ≤ x3_1) = true := decide_eq_true c4
          clear c4
          replace H := Option.bind_eq_some_iff.mp H
          obtain ⟨t277, A50, H⟩ := H
          replace H : (if t277 = true then (spec_l5Form.l0 k1 (wrap64 (x3_1 + 1)) a0_0 a0_1 a0_2 l0_3 l0_4) else (some false)) = some r := H
          have A5 := Aside0.mk A50
          clear A50
          by_cases c6 : t277 = true
          · subst c6
            have H1 : (spec_l5Form.l0 k1 (wrap64 (x3_1 + 1)) a0_0 a0_1 a0_2 l0_3 l0_4) = some r := by rw [if_pos rfl] at H; exact H
            clear H
            have H := H1
            clear H1
            have H' := Aside0.mk H
            clear H
            have hcz7_0 : wr.cell? ⟨gb275, 0, none⟩ = some (.int .i64 a0_0) := (blk_cell BK275.out 0).trans rfl
            have hcz7_1 : wr.cell? ⟨gb275, 1, none⟩ = some (.int .i64 a0_1) := (blk_cell BK275.out 1).trans rfl
            have hcz7_2 : wr.cell? ⟨gb275, 2, none⟩ = some (.string a0_2) := (blk_cell BK275.out 2).trans rfl
            have hcz7_3 : wr.cell? ⟨gb275, 3, none⟩ = some (.slice A0_3 l0_3.length c0_3) := (blk_cell BK275.out 3).trans rfl
            have hcz7_4 : wr.cell? ⟨gb275, 4, none⟩ = some (.slice A0_4 l0_4.length c0_4) := (blk_cell BK275.out 4).trans rfl
            have hfz7_0 := blk_frozen BK275.out 0
            have hfz7_1 := blk_frozen BK275.out 1
            have hfz7_2 := blk_frozen BK275.out 2
            have hfz7_3 := blk_frozen BK275.out 3
            have hfz7_4 := blk_frozen BK275.out 4
            have p276 : 0 ≤ (x3_1 : Int) := of_decide_eq_true (by first | (with_reducible assumption) | assumption)
            have q276 : x3_1 < (l0_4.length : Int) := of_decide_eq_true (by first | (with_reducible assumption) | assumption)
            obtain ⟨ad276, A276_3, c276_3, A276_4, c276_4, e276, hx276_0, hx276_1, hx276_2, hx276_3, hx276_4, hl276_3, hi276_3, hl276_4, hi276_4⟩ := at_T30 HR0_4.out x3_1 p276 q276
            cases e276
            replace hx276_0 := (HB.out.cell (World.block_lt_of_cell? w _ hx276_0)).trans hx276_0
            replace hx276_1 := (HB.out.cell (World.block_lt_of_cell? w _ hx276_1)).trans hx276_1
            replace hx276_2 := (HB.out.cell (World.block_lt_of_cell? w _ hx276_2)).trans hx276_2
            replace hx276_3 := (HB.out.cell (World.block_lt_of_cell? w _ hx276_3)).trans hx276_3
            replace hx276_4 := (HB.out.cell (World.block_lt_of_cell? w _ hx276_4)).trans hx276_4
            have HR276_3 := Aside0.mk hi276_3
            have HC276_3 := Aside0.mk hl276_3
            clear hi276_3 hl276_3
            have HR276_4 := Aside0.mk hi276_4
            have HC276_4 := Aside0.mk hl276_4
            clear hi276_4 hl276_4
            replace p276 := eq_true p276
            replace q276 := eq_true q276
            go_wp2_with (first | ((with_reducible refine gate_callee (f := 53) rfl ?_); refine goesL_ (some 17) rfl rfl Try.func53 (by kernel_rfl) rfl #[.agg #[.int .i64 ((rd_T30 l0_4 x3_1).f0), .int .i64 ((rd_T30 l0_4 x3_1).f1), .string ((rd_T30 l0_4 x3_1).f2), .slice A276_3 ((rd_T30 l0_4 x3_1).f3).length c276_3, .slice A276_4 ((rd_T30 l0_4 x3_1).f4).length c276_4]] rfl (by (try simp only [List.map_toArray, List.map_cons, List.map_nil]); first | done | rfl | (simp only [List.length_drop, List.length_take]; rfl)) ?_; (with_reducible refine (ih k1 (by have := HK1.out; omega) ((rd_T30 l0_4 x3_1).f0) ((rd_T30 l0_4 x3_1).f1) ((rd_T30 l0_4 x3_1).f2) _ _ ((rd_T30 l0_4 x3_1).f3) _ _ ((rd_T30 l0_4 x3_1).f4) true _ ?side1 ?side2 ?side3 ?side4 A5.out).mono ?_); (case side1 => repeat (first | exact (Kd.C_below HR276_3.out HB.out) | (with_reducible refine Kd.C_alloc ?_ _) | (with_reducible refine Kd.C_drewN ?_ _) | (with_reducible refine Kd.C_drew ?_))); (case side2 => exact HC276_3.out); (case side3 => repeat (first | exact (Kd.C_below HR276_4.out HB.out) | (with_reducible refine Kd.C_alloc ?_ _) | (with_reducible refine Kd.C_drewN ?_ _) | (with_reducible refine Kd.C_drew ?_))); (case side4 => exact HC276_4.out); rintro e w8 ⟨rfl, hb⟩; refine ⟨_, rfl, ?_⟩; have n0_ := Aside0.mk (blk_below (g := gb275) (o := .cells #[.int .i64 a0_0, .int .i64 a0_1, .string a0_2, .slice A0_3 l0_3.length c0_3, .slice (some ad276) l0_4.length c0_4] 30 (0, 0)) (by (with_reducible repeat (first | refine blk_drewN ?_ _ | refine blk_drew ?_ | refine blk_alloc ?_ _)); exact BK275.out) hb); have n1_ := Aside0.mk (below_step (by repeat (first | (with_reducible first | exact HB.out | apply below_alloc | apply pw_below_drewN | apply below_drew1 | refine below_set ?_ GE275.out) | exact HB.out)) hb); clear BK275; clear HB; have BK275 := n0_; have HB := n1_; clear n0_ n1_; (try clear hb); (try clear hb2); (try clear hk); (try clear hi)))
            go_roundg k1
            case measure => have := HK1.out; omega
            case rel => exact ⟨(wrap64 (x3_1 + 1)), (by first | rfl | (simp; done) | (simp [*]; done)), H', ⟨by have := HK1.out; omega⟩, ⟨by (with_reducible repeat (first | refine blk_drewN ?_ _ | refine blk_drew ?_ | refine blk_alloc ?_ _)); exact BK275.out⟩, ⟨by repeat (first | (with_reducible first | exact HB.out | apply below_alloc | apply pw_below_drewN | apply below_drew1 | refine below_set ?_ GE275.out) | exact HB.out)⟩⟩
          · replace c6 := Bool.eq_false_iff.mpr c6
            subst c6
            have H1 : (some false) = some r := by rw [if_neg (show ¬ (false = true) by decide)] at H; exact H
            clear H
            have H := H1
            clear H1
            obtain rfl := Option.some.inj H
            have hcz9_0 : wr.cell? ⟨gb275, 0, none⟩ = some (.int .i64 a0_0) := (blk_cell BK275.out 0).trans rfl
            have hcz9_1 : wr.cell? ⟨gb275, 1, none⟩ = some (.int .i64 a0_1) := (blk_cell BK275.out 1).trans rfl
            have hcz9_2 : wr.cell? ⟨gb275, 2, none⟩ = some (.string a0_2) := (blk_cell BK275.out 2).trans rfl
            have hcz9_3 : wr.cell? ⟨gb275, 3, none⟩ = some (.slice A0_3 l0_3.length c0_3) := (blk_cell BK275.out 3).trans rfl
            have hcz9_4 : wr.cell? ⟨gb275, 4, none⟩ = some (.slice A0_4 l0_4.length c0_4) := (blk_cell BK275.out 4).trans rfl
            have hfz9_0 := blk_frozen BK275.out 0
            have hfz9_1 := blk_frozen BK275.out 1
            have hfz9_2 := blk_frozen BK275.out 2
            have hfz9_3 := blk_frozen BK275.out 3
            have hfz9_4 := blk_frozen BK275.out 4
            have p276 : 0 ≤ (x3_1 : Int) := of_decide_eq_true (by first | (with_reducible assumption) | assumption)
            have q276 : x3_1 < (l0_4.length : Int) := of_decide_eq_true (by first | (with_reducible assumption) | assumption)
            obtain ⟨ad276, A276_3, c276_3, A276_4, c276_4, e276, hx276_0, hx276_1, hx276_2, hx276_3, hx276_4, hl276_3, hi276_3, hl276_4, hi276_4⟩ := at_T30 HR0_4.out x3_1 p276 q276
            cases e276
            replace hx276_0 := (HB.out.cell (World.block_lt_of_cell? w _ hx276_0)).trans hx276_0
            replace hx276_1 := (HB.out.cell (World.block_lt_of_cell? w _ hx276_1)).trans hx276_1
            replace hx276_2 := (HB.out.cell (World.block_lt_of_cell? w _ hx276_2)).trans hx276_2
            replace hx276_3 := (HB.out.cell (World.block_lt_of_cell? w _ hx276_3)).trans hx276_3
            replace hx276_4 := (HB.out.cell (World.block_lt_of_cell? w _ hx276_4)).trans hx276_4
            have HR276_3 := Aside0.mk hi276_3
            have HC276_3 := Aside0.mk hl276_3
            clear hi276_3 hl276_3
            have HR276_4 := Aside0.mk hi276_4
            have HC276_4 := Aside0.mk hl276_4
            clear hi276_4 hl276_4
            replace p276 := eq_true p276
            replace q276 := eq_true q276
            go_wp2_with (first | ((with_reducible refine gate_callee (f := 53) rfl ?_); refine goesL_ (some 17) rfl rfl Try.func53 (by kernel_rfl) rfl #[.agg #[.int .i64 ((rd_T30 l0_4 x3_1).f0), .int .i64 ((rd_T30 l0_4 x3_1).f1), .string ((rd_T30 l0_4 x3_1).f2), .slice A276_3 ((rd_T30 l0_4 x3_1).f3).length c276_3, .slice A276_4 ((rd_T30 l0_4 x3_1).f4).length c276_4]] rfl (by (try simp only [List.map_toArray, List.map_cons, List.map_nil]); first | done | rfl | (simp only [List.length_drop, List.length_take]; rfl)) ?_; (with_reducible refine (ih k1 (by have := HK1.out; omega) ((rd_T30 l0_4 x3_1).f0) ((rd_T30 l0_4 x3_1).f1) ((rd_T30 l0_4 x3_1).f2) _ _ ((rd_T30 l0_4 x3_1).f3) _ _ ((rd_T30 l0_4 x3_1).f4) false _ ?side1 ?side2 ?side3 ?side4 A5.out).mono ?_); (case side1 => repeat (first | exact (Kd.C_below HR276_3.out HB.out) | (with_reducible refine Kd.C_alloc ?_ _) | (with_reducible refine Kd.C_drewN ?_ _) | (with_reducible refine Kd.C_drew ?_))); (case side2 => exact HC276_3.out); (case side3 => repeat (first | exact (Kd.C_below HR276_4.out HB.out) | (with_reducible refine Kd.C_alloc ?_ _) | (with_reducible refine Kd.C_drewN ?_ _) | (with_reducible refine Kd.C_drew ?_))); (case side4 => exact HC276_4.out); rintro e w10 ⟨rfl, hb⟩; refine ⟨_, rfl, ?_⟩; have n0_ := Aside0.mk (blk_below (g := gb275) (o := .cells #[.int .i64 a0_0, .int .i64 a0_1, .string a0_2, .slice A0_3 l0_3.length c0_3, .slice (some ad276) l0_4.length c0_4] 30 (0, 0)) (by (with_reducible repeat (first | refine blk_drewN ?_ _ | refine blk_drew ?_ | refine blk_alloc ?_ _)); exact BK275.out) hb); have n1_ := Aside0.mk (below_step (by repeat (first | (with_reducible first | exact HB.out | apply below_alloc | apply pw_below_drewN | apply below_drew1 | refine below_set ?_ GE275.out) | exact HB.out)) hb); clear BK275; clear HB; have BK275 := n0_; have HB := n1_; clear n0_ n1_; (try clear hb); (try clear hb2); (try clear hk); (try clear hi)))
            go_ret
            exact ⟨by first | rfl | (simp [errW_none, errW_some] <;> rfl) | (simp [*, errW_none, errW_some] <;> rfl), by repeat (first | (with_reducible first | exact HB.out | apply below_alloc | apply pw_below_drewN | apply below_drew1 | refine below_set ?_ GE275.out) | exact HB.out)⟩
        · rw [if_neg c4] at H
          exact absurd H (by simp)
      · rw [if_neg c3] at H
        have c3b0 : decide (x3_1 < (l0_4.length : Int)) = false := decide_eq_false c3
        clear c3
        have HC11 := Aside0.mk H
        clear H
        have hcz12_0 : wr.cell? ⟨gb275, 0, none⟩ = some (.int .i64 a0_0) := (blk_cell BK275.out 0).trans rfl
        have hcz12_1 : wr.cell? ⟨gb275, 1, none⟩ = some (.int .i64 a0_1) := (blk_cell BK275.out 1).trans rfl
        have hcz12_2 : wr.cell? ⟨gb275, 2, none⟩ = some (.string a0_2) := (blk_cell BK275.out 2).trans rfl
        have hcz12_3 : wr.cell? ⟨gb275, 3, none⟩ = some (.slice A0_3 l0_3.length c0_3) := (blk_cell BK275.out 3).trans rfl
        have hcz12_4 : wr.cell? ⟨gb275, 4, none⟩ = some (.slice A0_4 l0_4.length c0_4) := (blk_cell BK275.out 4).trans rfl
        have hfz12_0 := blk_frozen BK275.out 0
        have hfz12_1 := blk_frozen BK275.out 1
        have hfz12_2 := blk_frozen BK275.out 2
        have hfz12_3 := blk_frozen BK275.out 3
        have hfz12_4 := blk_frozen BK275.out 4
        go_upto_region 7 with (fail)
        go_cut [46] (fun v46 wc => ∃ (kq : Nat) (x46_10 : Bool), v46 = .bool x46_10 ∧ Aside0 (spec_l5Form.j1 kq x46_10 a0_0 a0_1 a0_2 l0_3 l0_4 = some r) ∧ Aside0 (kq ≤ k1) ∧ Aside0 (wc.heap[gb275]? = some (.cells #[.int .i64 a0_0, .int .i64 a0_1, .string a0_2, (.slice A0_3 l0_3.length c0_3), (.slice A0_4 l0_4.length c0_4)] 30 (0, 0))) ∧ Aside0 (Below w.heap.size w wc))
        case first =>
          have H := HC11.out
          clear HC11
          replace H := Option.bind_eq_some_iff.mp H
          obtain ⟨t278, A130, H⟩ := H
          replace H : (if ((a0_0 == 4) != t278) = true then (spec_l5Form.j1 k1 true a0_0 a0_1 a0_2 l0_3 l0_4) else (if a0_0 = 4 then (if a0_0 = 3 then (spec_l5Form.j1 k1 false a0_0 a0_1 a0_2 l0_3 l0_4) else (spec_l5Form.j1 k1 (decide ((l0_3.length : Int) > 0)) a0_0 a0_1 a0_2 l0_3 l0_4)) else (if a0_2.toList = ([] : List UInt8) then (if a0_0 = 3 then (spec_l5Form.j1 k1 false a0_0 a0_1 a0_2 l0_3 l0_4) else (spec_l5Form.j1 k1 (decide ((l0_3.length : Int) > 0)) a0_0 a0_1 a0_2 l0_3 l0_4)) else (spec_l5Form.j1 k1 true a0_0 a0_1 a0_2 l0_3 l0_4)))) = some r := H
          have A13 := Aside0.mk A130
          clear A130
          by_cases c14 : ((a0_0 == 4) != t278) = true
          · rw [if_pos c14] at H
            have c14b0 : ((a0_0 == 4) != t278) = true := c14
            (try (have c14b1 : decide ((a0_0 == 4) = t278) = false := by simpa using c14))
            (try (have c14b2 : ((a0_0 == 4) == t278) = false := by simpa using c14))
            (try (have c14b3 : ¬ ((a0_0 == 4) = t278) := by simpa using c14))
            clear c14
            (first | rw [c14b0] | (simp only [i64_w, i32_w]; rw [c14b0]) | (rw [c14b2]; simp only [Bool.not_true, Bool.not_false]) | skip)
            have H' := Aside0.mk H
            clear H
            have hcz15_0 : wr.cell? ⟨gb275, 0, none⟩ = some (.int .i64 a0_0) := (blk_cell BK275.out 0).trans rfl
            have hcz15_1 : wr.cell? ⟨gb275, 1, none⟩ = some (.int .i64 a0_1) := (blk_cell BK275.out 1).trans rfl
            have hcz15_2 : wr.cell? ⟨gb275, 2, none⟩ = some (.string a0_2) := (blk_cell BK275.out 2).trans rfl
            have hcz15_3 : wr.cell? ⟨gb275, 3, none⟩ = some (.slice A0_3 l0_3.length c0_3) := (blk_cell BK275.out 3).trans rfl
            have hcz15_4 : wr.cell? ⟨gb275, 4, none⟩ = some (.slice A0_4 l0_4.length c0_4) := (blk_cell BK275.out 4).trans rfl
            have hfz15_0 := blk_frozen BK275.out 0
            have hfz15_1 := blk_frozen BK275.out 1
            have hfz15_2 := blk_frozen BK275.out 2
            have hfz15_3 := blk_frozen BK275.out 3
            have hfz15_4 := blk_frozen BK275.out 4
            go_wp2_with (first | ((with_reducible refine gate_callee (f := 84) rfl ?_); refine goesL_ (some 25) rfl rfl Try.func84 (by kernel_rfl) rfl #[.string a0_2] rfl (by (try simp only [List.map_toArray, List.map_cons, List.map_nil]); first | done | rfl | (simp only [List.length_drop, List.length_take]; rfl)) ?_; (with_reducible refine (spec_IsName.calls k1 a0_2 t278 _ A13.out).mono ?_); rintro e w' ⟨rfl, ⟨nd, rfl⟩⟩; refine ⟨_, rfl, ?_⟩))
            refine Met.intro ?_
            go_step
            (repeat apply Exists.intro)
            refine ⟨?rel, ?eqs⟩
            case eqs => first | rfl | (simp only [c14b0, c3b0]; rfl)
            case rel => exact ⟨_, (true), (by first | rfl | (simp; done) | (simp [*]; done)), H', ⟨by have := HK1.out; first | omega | exact Nat.le_refl _⟩, ⟨by (with_reducible repeat (first | refine blk_drewN ?_ _ | refine blk_drew ?_ | refine blk_alloc ?_ _)); exact BK275.out⟩, ⟨by repeat (first | (with_reducible first | exact HB.out | apply below_alloc | apply pw_below_drewN | apply below_drew1 | refine below_set ?_ GE275.out) | exact HB.out)⟩⟩
          · rw [if_neg c14] at H
            have c14b0 : ((a0_0 == 4) != t278) = false := by simpa using c14
            (try (have c14b1 : decide ((a0_0 == 4) = t278) = true := by simpa using c14))
            (try (have c14b2 : ((a0_0 == 4) == t278) = true := by simpa using c14))
            clear c14
            (first | rw [c14b0] | (simp only [i64_w, i32_w]; rw [c14b0]) | (rw [c14b2]; simp only [Bool.not_true, Bool.not_false]) | skip)
            by_cases c16 : a0_0 = 4
            · rw [if_pos c16] at H
              have c16b0 : (a0_0 == 4) = true := beq_iff_eq.mpr c16
              have c16b1 : (a0_0 != 4) = false := bne_eq_false_iff_eq.mpr c16
              have c16t : t278 = true := by rw [c16b0] at c14b0; simpa using c14b0
              clear c16
              by_cases c17 : a0_0 = 3
              · rw [if_pos c17] at H
                have c17b0 : (a0_0 == 3) = true := beq_iff_eq.mpr c17
                have c17b1 : (a0_0 != 3) = false := bne_eq_false_iff_eq.mpr c17
                clear c17
                have H' := Aside0.mk H
                clear H
                have hcz18_0 : wr.cell? ⟨gb275, 0, none⟩ = some (.int .i64 a0_0) := (blk_cell BK275.out 0).trans rfl
                have hcz18_1 : wr.cell? ⟨gb275, 1, none⟩ = some (.int .i64 a0_1) := (blk_cell BK275.out 1).trans rfl
                have hcz18_2 : wr.cell? ⟨gb275, 2, none⟩ = some (.string a0_2) := (blk_cell BK275.out 2).trans rfl
                have hcz18_3 : wr.cell? ⟨gb275, 3, none⟩ = some (.slice A0_3 l0_3.length c0_3) := (blk_cell BK275.out 3).trans rfl
                have hcz18_4 : wr.cell? ⟨gb275, 4, none⟩ = some (.slice A0_4 l0_4.length c0_4) := (blk_cell BK275.out 4).trans rfl
                have hfz18_0 := blk_frozen BK275.out 0
                have hfz18_1 := blk_frozen BK275.out 1
                have hfz18_2 := blk_frozen BK275.out 2
                have hfz18_3 := blk_frozen BK275.out 3
                have hfz18_4 := blk_frozen BK275.out 4
                go_wp2_with (first | ((with_reducible refine gate_callee (f := 84) rfl ?_); refine goesL_ (some 25) rfl rfl Try.func84 (by kernel_rfl) rfl #[.string a0_2] rfl (by (try simp only [List.map_toArray, List.map_cons, List.map_nil]); first | done | rfl | (simp only [List.length_drop, List.length_take]; rfl)) ?_; (with_reducible refine (spec_IsName.calls k1 a0_2 t278 _ A13.out).mono ?_); rintro e w' ⟨rfl, ⟨nd, rfl⟩⟩; refine ⟨_, rfl, ?_⟩))
                refine Met.intro ?_
                go_step
                (repeat apply Exists.intro)
                refine ⟨?rel, ?eqs⟩
                case eqs => first | rfl | (simp only [c17b1, c17b0, c16b1, c16b0, c14b0, c3b0]; rfl)
                case rel => exact ⟨_, (false), (by first | rfl | (simp; done) | (simp [*]; done)), H', ⟨by have := HK1.out; first | omega | exact Nat.le_refl _⟩, ⟨by (with_reducible repeat (first | refine blk_drewN ?_ _ | refine blk_drew ?_ | refine blk_alloc ?_ _)); exact BK275.out⟩, ⟨by repeat (first | (with_reducible first | exact HB.out | apply below_alloc | apply pw_below_drewN | apply below_drew1 | refine below_set ?_ GE275.out) | exact HB.out)⟩⟩
              · rw [if_neg c17] at H
                have c17b0 : (a0_0 == 3) = false := beq_eq_false_iff_ne.mpr c17
                have c17b1 : (a0_0 != 3) = true := bne_iff_ne.mpr c17
                have H' := Aside0.mk H
                clear H
                have hcz19_0 : wr.cell? ⟨gb275, 0, none⟩ = some (.int .i64 a0_0) := (blk_cell BK275.out 0).trans rfl
                have hcz19_1 : wr.cell? ⟨gb275, 1, none⟩ = some (.int .i64 a0_1) := (blk_cell BK275.out 1).trans rfl
                have hcz19_2 : wr.cell? ⟨gb275, 2, none⟩ = some (.string a0_2) := (blk_cell BK275.out 2).trans rfl
                have hcz19_3 : wr.cell? ⟨gb275, 3, none⟩ = some (.slice A0_3 l0_3.length c0_3) := (blk_cell BK275.out 3).trans rfl
                have hcz19_4 : wr.cell? ⟨gb275, 4, none⟩ = some (.slice A0_4 l0_4.length c0_4) := (blk_cell BK275.out 4).trans rfl
                have hfz19_0 := blk_frozen BK275.out 0
                have hfz19_1 := blk_frozen BK275.out 1
                have hfz19_2 := blk_frozen BK275.out 2
                have hfz19_3 := blk_frozen BK275.out 3
                have hfz19_4 := blk_frozen BK275.out 4
                go_wp2_with (first | ((with_reducible refine gate_callee (f := 84) rfl ?_); refine goesL_ (some 25) rfl rfl Try.func84 (by kernel_rfl) rfl #[.string a0_2] rfl (by (try simp only [List.map_toArray, List.map_cons, List.map_nil]); first | done | rfl | (simp only [List.length_drop, List.length_take]; rfl)) ?_; (with_reducible refine (spec_IsName.calls k1 a0_2 t278 _ A13.out).mono ?_); rintro e w' ⟨rfl, ⟨nd, rfl⟩⟩; refine ⟨_, rfl, ?_⟩))
                refine Met.intro ?_
                go_step
                (repeat apply Exists.intro)
                refine ⟨?rel, ?eqs⟩
                case eqs => first | rfl | (simp only [c17b1, c17b0, c16b1, c16b0, c14b0, c3b0]; rfl)
                case rel => exact ⟨_, (decide ((l0_3.length : Int) > 0)), (by first | rfl | (simp; done) | (simp [*]; done)), H', ⟨by have := HK1.out; first | omega | exact Nat.le_refl _⟩, ⟨by (with_reducible repeat (first | refine blk_drewN ?_ _ | refine blk_drew ?_ | refine blk_alloc ?_ _)); exact BK275.out⟩, ⟨by repeat (first | (with_reducible first | exact HB.out | apply below_alloc | apply pw_below_drewN | apply below_drew1 | refine below_set ?_ GE275.out) | exact HB.out)⟩⟩
            · rw [if_neg c16] at H
              have c16b0 : (a0_0 == 4) = false := beq_eq_false_iff_ne.mpr c16
              have c16b1 : (a0_0 != 4) = true := bne_iff_ne.mpr c16
              have c16t : t278 = false := by rw [c16b0] at c14b0; simpa using c14b0
              by_cases c20 : a0_2.toList = ([] : List UInt8)
              · rw [if_pos c20] at H
                have c20b0 : (a0_2.toList == ([] : List UInt8)) = true := beq_iff_eq.mpr c20
                have c20b1 : (a0_2.toList != ([] : List UInt8)) = false := bne_eq_false_iff_eq.mpr c20
                clear c20
                by_cases c21 : a0_0 = 3
                · rw [if_pos c21] at H
                  have c21b0 : (a0_0 == 3) = true := beq_iff_eq.mpr c21
                  have c21b1 : (a0_0 != 3) = false := bne_eq_false_iff_eq.mpr c21
                  clear c21
                  have H' := Aside0.mk H
                  clear H
                  have hcz22_0 : wr.cell? ⟨gb275, 0, none⟩ = some (.int .i64 a0_0) := (blk_cell BK275.out 0).trans rfl
                  have hcz22_1 : wr.cell? ⟨gb275, 1, none⟩ = some (.int .i64 a0_1) := (blk_cell BK275.out 1).trans rfl
                  have hcz22_2 : wr.cell? ⟨gb275, 2, none⟩ = some (.string a0_2) := (blk_cell BK275.out 2).trans rfl
                  have hcz22_3 : wr.cell? ⟨gb275, 3, none⟩ = some (.slice A0_3 l0_3.length c0_3) := (blk_cell BK275.out 3).trans rfl
                  have hcz22_4 : wr.cell? ⟨gb275, 4, none⟩ = some (.slice A0_4 l0_4.length c0_4) := (blk_cell BK275.out 4).trans rfl
                  have hfz22_0 := blk_frozen BK275.out 0
                  have hfz22_1 := blk_frozen BK275.out 1
                  have hfz22_2 := blk_frozen BK275.out 2
                  have hfz22_3 := blk_frozen BK275.out 3
                  have hfz22_4 := blk_frozen BK275.out 4
                  go_wp2_with (first | ((with_reducible refine gate_callee (f := 84) rfl ?_); refine goesL_ (some 25) rfl rfl Try.func84 (by kernel_rfl) rfl #[.string a0_2] rfl (by (try simp only [List.map_toArray, List.map_cons, List.map_nil]); first | done | rfl | (simp only [List.length_drop, List.length_take]; rfl)) ?_; (with_reducible refine (spec_IsName.calls k1 a0_2 t278 _ A13.out).mono ?_); rintro e w' ⟨rfl, ⟨nd, rfl⟩⟩; refine ⟨_, rfl, ?_⟩))
                  refine Met.intro ?_
                  go_step
                  (repeat apply Exists.intro)
                  refine ⟨?rel, ?eqs⟩
                  case eqs => first | rfl | (simp only [c21b1, c21b0, c20b1, c20b0, c16b1, c16b0, c14b0, c3b0]; rfl)
                  case rel => exact ⟨_, (false), (by first | rfl | (simp; done) | (simp [*]; done)), H', ⟨by have := HK1.out; first | omega | exact Nat.le_refl _⟩, ⟨by (with_reducible repeat (first | refine blk_drewN ?_ _ | refine blk_drew ?_ | refine blk_alloc ?_ _)); exact BK275.out⟩, ⟨by repeat (first | (with_reducible first | exact HB.out | apply below_alloc | apply pw_below_drewN | apply below_drew1 | refine below_set ?_ GE275.out) | exact HB.out)⟩⟩
                · rw [if_neg c21] at H
                  have c21b0 : (a0_0 == 3) = false := beq_eq_false_iff_ne.mpr c21
                  have c21b1 : (a0_0 != 3) = true := bne_iff_ne.mpr c21
                  have H' := Aside0.mk H
                  clear H
                  have hcz23_0 : wr.cell? ⟨gb275, 0, none⟩ = some (.int .i64 a0_0) := (blk_cell BK275.out 0).trans rfl
                  have hcz23_1 : wr.cell? ⟨gb275, 1, none⟩ = some (.int .i64 a0_1) := (blk_cell BK275.out 1).trans rfl
                  have hcz23_2 : wr.cell? ⟨gb275, 2, none⟩ = some (.string a0_2) := (blk_cell BK275.out 2).trans rfl
                  have hcz23_3 : wr.cell? ⟨gb275, 3, none⟩ = some (.slice A0_3 l0_3.length c0_3) := (blk_cell BK275.out 3).trans rfl
                  have hcz23_4 : wr.cell? ⟨gb275, 4, none⟩ = some (.slice A0_4 l0_4.length c0_4) := (blk_cell BK275.out 4).trans rfl
                  have hfz23_0 := blk_frozen BK275.out 0
                  have hfz23_1 := blk_frozen BK275.out 1
                  have hfz23_2 := blk_frozen BK275.out 2
                  have hfz23_3 := blk_frozen BK275.out 3
                  have hfz23_4 := blk_frozen BK275.out 4
                  go_wp2_with (first | ((with_reducible refine gate_callee (f := 84) rfl ?_); refine goesL_ (some 25) rfl rfl Try.func84 (by kernel_rfl) rfl #[.string a0_2] rfl (by (try simp only [List.map_toArray, List.map_cons, List.map_nil]); first | done | rfl | (simp only [List.length_drop, List.length_take]; rfl)) ?_; (with_reducible refine (spec_IsName.calls k1 a0_2 t278 _ A13.out).mono ?_); rintro e w' ⟨rfl, ⟨nd, rfl⟩⟩; refine ⟨_, rfl, ?_⟩))
                  refine Met.intro ?_
                  go_step
                  (repeat apply Exists.intro)
                  refine ⟨?rel, ?eqs⟩
                  case eqs => first | rfl | (simp only [c21b1, c21b0, c20b1, c20b0, c16b1, c16b0, c14b0, c3b0]; rfl)
                  case rel => exact ⟨_, (decide ((l0_3.length : Int) > 0)), (by first | rfl | (simp; done) | (simp [*]; done)), H', ⟨by have := HK1.out; first | omega | exact Nat.le_refl _⟩, ⟨by (with_reducible repeat (first | refine blk_drewN ?_ _ | refine blk_drew ?_ | refine blk_alloc ?_ _)); exact BK275.out⟩, ⟨by repeat (first | (with_reducible first | exact HB.out | apply below_alloc | apply pw_below_drewN | apply below_drew1 | refine below_set ?_ GE275.out) | exact HB.out)⟩⟩
              · rw [if_neg c20] at H
                have c20b0 : (a0_2.toList == ([] : List UInt8)) = false := beq_eq_false_iff_ne.mpr c20
                have c20b1 : (a0_2.toList != ([] : List UInt8)) = true := bne_iff_ne.mpr c20
                have H' := Aside0.mk H
                clear H
                have hcz24_0 : wr.cell? ⟨gb275, 0, none⟩ = some (.int .i64 a0_0) := (blk_cell BK275.out 0).trans rfl
                have hcz24_1 : wr.cell? ⟨gb275, 1, none⟩ = some (.int .i64 a0_1) := (blk_cell BK275.out 1).trans rfl
                have hcz24_2 : wr.cell? ⟨gb275, 2, none⟩ = some (.string a0_2) := (blk_cell BK275.out 2).trans rfl
                have hcz24_3 : wr.cell? ⟨gb275, 3, none⟩ = some (.slice A0_3 l0_3.length c0_3) := (blk_cell BK275.out 3).trans rfl
                have hcz24_4 : wr.cell? ⟨gb275, 4, none⟩ = some (.slice A0_4 l0_4.length c0_4) := (blk_cell BK275.out 4).trans rfl
                have hfz24_0 := blk_frozen BK275.out 0
                have hfz24_1 := blk_frozen BK275.out 1
                have hfz24_2 := blk_frozen BK275.out 2
                have hfz24_3 := blk_frozen BK275.out 3
                have hfz24_4 := blk_frozen BK275.out 4
                go_wp2_with (first | ((with_reducible refine gate_callee (f := 84) rfl ?_); refine goesL_ (some 25) rfl rfl Try.func84 (by kernel_rfl) rfl #[.string a0_2] rfl (by (try simp only [List.map_toArray, List.map_cons, List.map_nil]); first | done | rfl | (simp only [List.length_drop, List.length_take]; rfl)) ?_; (with_reducible refine (spec_IsName.calls k1 a0_2 t278 _ A13.out).mono ?_); rintro e w' ⟨rfl, ⟨nd, rfl⟩⟩; refine ⟨_, rfl, ?_⟩))
                refine Met.intro ?_
                go_step
                (repeat apply Exists.intro)
                refine ⟨?rel, ?eqs⟩
                case eqs => first | rfl | (simp only [c20b1, c20b0, c16b1, c16b0, c14b0, c3b0]; rfl)
                case rel => exact ⟨_, (true), (by first | rfl | (simp; done) | (simp [*]; done)), H', ⟨by have := HK1.out; first | omega | exact Nat.le_refl _⟩, ⟨by (with_reducible repeat (first | refine blk_drewN ?_ _ | refine blk_drew ?_ | refine blk_alloc ?_ _)); exact BK275.out⟩, ⟨by repeat (first | (with_reducible first | exact HB.out | apply below_alloc | apply pw_below_drewN | apply below_drew1 | refine below_set ?_ GE275.out) | exact HB.out)⟩⟩
        case rest =>
          clear HC11
          try clear c1
          try clear c2
          try clear p2
          try clear q2
          try clear hx2
          try clear c3
          try clear c3b0
          try clear c4
          try clear c4b0
          try clear c5
          try clear c6
          try clear p6
          try clear c8
          try clear c14
          try clear c14b0
          try clear c14b1
          try clear c14b2
          try clear c16
          try clear c16b0
          try clear c16t
          try clear c16b1
          try clear c17
          try clear c17b0
          try clear c17b1
          try clear c20
          try clear c20b0
          try clear c20b1
          try clear c21
          try clear c21b0
          try clear c21b1
          try clear hcz12_0
          try clear hcz12_1
          try clear hcz12_2
          try clear hcz12_3
          try clear hcz12_4
          try clear hcz15_0
          try clear hcz15_1
          try clear hcz15_2
          try clear hcz15_3
          try clear hcz15_4
          try clear hcz18_0
          try clear hcz18_1
          try clear hcz18_2
          try clear hcz18_3
          try clear hcz18_4
          try clear hcz19_0
          try clear hcz19_1
          try clear hcz19_2
          try clear hcz19_3
          try clear hcz19_4
          try clear hcz22_0
          try clear hcz22_1
          try clear hcz22_2
          try clear hcz22_3
          try clear hcz22_4
          try clear hcz23_0
          try clear hcz23_1
          try clear hcz23_2
          try clear hcz23_3
          try clear hcz23_4
          try clear hcz24_0
          try clear hcz24_1
          try clear hcz24_2
          try clear hcz24_3
          try clear hcz24_4
          try clear hcz7_0
          try clear hcz7_1
          try clear hcz7_2
          try clear hcz7_3
          try clear hcz7_4
          try clear hcz9_0
          try clear hcz9_1
          try clear hcz9_2
          try clear hcz9_3
          try clear hcz9_4
          try clear hfz12_0
          try clear hfz12_1
          try clear hfz12_2
          try clear hfz12_3
          try clear hfz12_4
          try clear hfz15_0
          try clear hfz15_1
          try clear hfz15_2
          try clear hfz15_3
          try clear hfz15_4
          try clear hfz18_0
          try clear hfz18_1
          try clear hfz18_2
          try clear hfz18_3
          try clear hfz18_4
          try clear hfz19_0
          try clear hfz19_1
          try clear hfz19_2
          try clear hfz19_3
          try clear hfz19_4
          try clear hfz22_0
          try clear hfz22_1
          try clear hfz22_2
          try clear hfz22_3
          try clear hfz22_4
          try clear hfz23_0
          try clear hfz23_1
          try clear hfz23_2
          try clear hfz23_3
          try clear hfz23_4
          try clear hfz24_0
          try clear hfz24_1
          try clear hfz24_2
          try clear hfz24_3
          try clear hfz24_4
          try clear hfz7_0
          try clear hfz7_1
          try clear hfz7_2
          try clear hfz7_3
          try clear hfz7_4
          try clear hfz9_0
          try clear hfz9_1
          try clear hfz9_2
          try clear hfz9_3
          try clear hfz9_4
          try clear hx276_0
          try clear hx276_1
          try clear hx276_2
          try clear hx276_3
          try clear hx276_4
          try clear p2
          try clear p276
          try clear q276
          obtain ⟨kq, x46_10, rfl, HA, HJ10, BK275, HB⟩ := hcut
          cases kq with
          | zero => exact absurd HA.out (by simp [spec_l5Form.j1])
          | succ kj10 =>
            have H := HA.out
            clear HA
            simp only [spec_l5Form.j1] at H
            by_cases c25 : x46_10 = true
            · subst c25
              have H1 : (some false) = some r := by rw [if_pos rfl] at H; exact H
              clear H
              have H := H1
              clear H1
              obtain rfl := Option.some.inj H
              go_wp2
              go_ret
              exact ⟨by first | rfl | (simp [errW_none, errW_some] <;> rfl) | (simp [*, errW_none, errW_some] <;> rfl), by repeat (first | (with_reducible first | exact HB.out | apply below_alloc | apply pw_below_drewN | apply below_drew1 | refine below_set ?_ GE275.out) | exact HB.out)⟩
            · replace c25 := Bool.eq_false_iff.mpr c25
              subst c25
              have H1 : (if a0_0 = 1 then (some ((l0_4.length : Int) == 0)) else (if a0_0 = 2 then (if (l0_4.length : Int) = 0 then ((spec_l1In.f a0_1 0 1).bind fun t279 => (some t279)) else (some false)) else (if a0_0 = 3 then (if a0_1 = 0 then (if (l0_3.length : Int) = (l0_4.length : Int) then ((spec_l3Labels.f kj10 l0_3).bind fun t280 => (some t280)) else (some false)) else (some false)) else (if a0_0 = 4 then (if a0_1 = 0 then (some ((l0_4.length : Int) == 1)) else (some false)) else (if a0_0 = 5 then (some (a0_1 == 0)) else (some false)))))) = some r := by rw [if_neg (show ¬ (false = true) by decide)] at H; exact H
              clear H
              have H := H1
              clear H1
              by_cases c26 : a0_0 = 1
              · rw [if_pos c26] at H
                have c26b0 : (a0_0 == 1) = true := beq_iff_eq.mpr c26
                have c26b1 : (a0_0 != 1) = false := bne_eq_false_iff_eq.mpr c26
                clear c26
                obtain rfl := Option.some.inj H
                have hcz27_0 : wc.cell? ⟨gb275, 0, none⟩ = some (.int .i64 a0_0) := (blk_cell BK275.out 0).trans rfl
                have hcz27_1 : wc.cell? ⟨gb275, 1, none⟩ = some (.int .i64 a0_1) := (blk_cell BK275.out 1).trans rfl
                have hcz27_2 : wc.cell? ⟨gb275, 2, none⟩ = some (.string a0_2) := (blk_cell BK275.out 2).trans rfl
                have hcz27_3 : wc.cell? ⟨gb275, 3, none⟩ = some (.slice A0_3 l0_3.length c0_3) := (blk_cell BK275.out 3).trans rfl
                have hcz27_4 : wc.cell? ⟨gb275, 4, none⟩ = some (.slice A0_4 l0_4.length c0_4) := (blk_cell BK275.out 4).trans rfl
                have hfz27_0 := blk_frozen BK275.out 0
                have hfz27_1 := blk_frozen BK275.out 1
                have hfz27_2 := blk_frozen BK275.out 2
                have hfz27_3 := blk_frozen BK275.out 3
                have hfz27_4 := blk_frozen BK275.out 4
                go_wp2
                go_ret
                exact ⟨by first | rfl | (simp [errW_none, errW_some] <;> rfl) | (simp [*, errW_none, errW_some] <;> rfl), by repeat (first | (with_reducible first | exact HB.out | apply below_alloc | apply pw_below_drewN | apply below_drew1 | refine below_set ?_ GE275.out) | exact HB.out)⟩
              · rw [if_neg c26] at H
                have c26b0 : (a0_0 == 1) = false := beq_eq_false_iff_ne.mpr c26
                have c26b1 : (a0_0 != 1) = true := bne_iff_ne.mpr c26
                by_cases c28 : a0_0 = 2
                · rw [if_pos c28] at H
                  have c28b0 : (a0_0 == 2) = true := beq_iff_eq.mpr c28
                  have c28b1 : (a0_0 != 2) = false := bne_eq_false_iff_eq.mpr c28
                  clear c28
                  by_cases c29 : (l0_4.length : Int) = 0
                  · rw [if_pos c29] at H
                    have c29b0 : ((l0_4.length : Int) == 0) = true := beq_iff_eq.mpr c29
                    have c29b1 : ((l0_4.length : Int) != 0) = false := bne_eq_false_iff_eq.mpr c29
                    clear c29
                    replace H := Option.bind_eq_some_iff.mp H
                    obtain ⟨t279, A300, H⟩ := H
                    replace H : (some t279) = some r := H
                    have A30 := Aside0.mk A300
                    clear A300
                    obtain rfl := Option.some.inj H
                    have hcz31_0 : wc.cell? ⟨gb275, 0, none⟩ = some (.int .i64 a0_0) := (blk_cell BK275.out 0).trans rfl
                    have hcz31_1 : wc.cell? ⟨gb275, 1, none⟩ = some (.int .i64 a0_1) := (blk_cell BK275.out 1).trans rfl
                    have hcz31_2 : wc.cell? ⟨gb275, 2, none⟩ = some (.string a0_2) := (blk_cell BK275.out 2).trans rfl
                    have hcz31_3 : wc.cell? ⟨gb275, 3, none⟩ = some (.slice A0_3 l0_3.length c0_3) := (blk_cell BK275.out 3).trans rfl
                    have hcz31_4 : wc.cell? ⟨gb275, 4, none⟩ = some (.slice A0_4 l0_4.length c0_4) := (blk_cell BK275.out 4).trans rfl
                    have hfz31_0 := blk_frozen BK275.out 0
                    have hfz31_1 := blk_frozen BK275.out 1
                    have hfz31_2 := blk_frozen BK275.out 2
                    have hfz31_3 := blk_frozen BK275.out 3
                    have hfz31_4 := blk_frozen BK275.out 4
                    go_wp2_with (first | (go_at_call 85; (with_reducible refine (spec_l1In.calls a0_1 0 1 t279 _ A30.out).mono ?_); rintro e w' ⟨rfl, ⟨nd, rfl⟩⟩))
                    go_ret
                    exact ⟨by first | rfl | (simp [errW_none, errW_some] <;> rfl) | (simp [*, errW_none, errW_some] <;> rfl), by repeat (first | (with_reducible first | exact HB.out | apply below_alloc | apply pw_below_drewN | apply below_drew1 | refine below_set ?_ GE275.out) | exact HB.out)⟩
                  · rw [if_neg c29] at H
                    have c29b0 : ((l0_4.length : Int) == 0) = false := beq_eq_false_iff_ne.mpr c29
                    have c29b1 : ((l0_4.length : Int) != 0) = true := bne_iff_ne.mpr c29
                    have c29b2 : ¬ (l0_4 = []) := fun h_ => c29 (by rw [h_]; rfl)
                    obtain rfl := Option.some.inj H
                    have hcz32_0 : wc.cell? ⟨gb275, 0, none⟩ = some (.int .i64 a0_0) := (blk_cell BK275.out 0).trans rfl
                    have hcz32_1 : wc.cell? ⟨gb275, 1, none⟩ = some (.int .i64 a0_1) := (blk_cell BK275.out 1).trans rfl
                    have hcz32_2 : wc.cell? ⟨gb275, 2, none⟩ = some (.string a0_2) := (blk_cell BK275.out 2).trans rfl
                    have hcz32_3 : wc.cell? ⟨gb275, 3, none⟩ = some (.slice A0_3 l0_3.length c0_3) := (blk_cell BK275.out 3).trans rfl
                    have hcz32_4 : wc.cell? ⟨gb275, 4, none⟩ = some (.slice A0_4 l0_4.length c0_4) := (blk_cell BK275.out 4).trans rfl
                    have hfz32_0 := blk_frozen BK275.out 0
                    have hfz32_1 := blk_frozen BK275.out 1
                    have hfz32_2 := blk_frozen BK275.out 2
                    have hfz32_3 := blk_frozen BK275.out 3
                    have hfz32_4 := blk_frozen BK275.out 4
                    go_wp2
                    go_ret
                    exact ⟨by first | rfl | (simp [errW_none, errW_some] <;> rfl) | (simp [*, errW_none, errW_some] <;> rfl), by repeat (first | (with_reducible first | exact HB.out | apply below_alloc | apply pw_below_drewN | apply below_drew1 | refine below_set ?_ GE275.out) | exact HB.out)⟩
                · rw [if_neg c28] at H
                  have c28b0 : (a0_0 == 2) = false := beq_eq_false_iff_ne.mpr c28
                  have c28b1 : (a0_0 != 2) = true := bne_iff_ne.mpr c28
                  by_cases c33 : a0_0 = 3
                  · rw [if_pos c33] at H
                    have c33b0 : (a0_0 == 3) = true := beq_iff_eq.mpr c33
                    have c33b1 : (a0_0 != 3) = false := bne_eq_false_iff_eq.mpr c33
                    clear c33
                    by_cases c34 : a0_1 = 0
                    · rw [if_pos c34] at H
                      have c34b0 : (a0_1 == 0) = true := beq_iff_eq.mpr c34
                      have c34b1 : (a0_1 != 0) = false := bne_eq_false_iff_eq.mpr c34
                      clear c34
                      by_cases c35 : (l0_3.length : Int) = (l0_4.length : Int)
                      · rw [if_pos c35] at H
                        have c35b0 : ((l0_3.length : Int) == (l0_4.length : Int)) = true := beq_iff_eq.mpr c35
                        have c35b1 : ((l0_3.length : Int) != (l0_4.length : Int)) = false := bne_eq_false_iff_eq.mpr c35
                        have c35b2 : (l0_3.length == l0_4.length) = true := by first | simpa using c35 | (simp at c35 ⊢; omega)
                        clear c35
                        replace H := Option.bind_eq_some_iff.mp H
                        obtain ⟨t280, A360, H⟩ := H
                        replace H : (some t280) = some r := H
                        have A36 := Aside0.mk A360
                        clear A360
                        obtain rfl := Option.some.inj H
                        have hcz37_0 : wc.cell? ⟨gb275, 0, none⟩ = some (.int .i64 a0_0) := (blk_cell BK275.out 0).trans rfl
                        have hcz37_1 : wc.cell? ⟨gb275, 1, none⟩ = some (.int .i64 a0_1) := (blk_cell BK275.out 1).trans rfl
                        have hcz37_2 : wc.cell? ⟨gb275, 2, none⟩ = some (.string a0_2) := (blk_cell BK275.out 2).trans rfl
                        have hcz37_3 : wc.cell? ⟨gb275, 3, none⟩ = some (.slice A0_3 l0_3.length c0_3) := (blk_cell BK275.out 3).trans rfl
                        have hcz37_4 : wc.cell? ⟨gb275, 4, none⟩ = some (.slice A0_4 l0_4.length c0_4) := (blk_cell BK275.out 4).trans rfl
                        have hfz37_0 := blk_frozen BK275.out 0
                        have hfz37_1 := blk_frozen BK275.out 1
                        have hfz37_2 := blk_frozen BK275.out 2
                        have hfz37_3 := blk_frozen BK275.out 3
                        have hfz37_4 := blk_frozen BK275.out 4
                        go_wp2_with (first | (go_at_call 86; (with_reducible refine (spec_l3Labels.calls kj10 _ _ l0_3 t280 _ ?side1 ?side2 A36.out).mono ?_); (case side1 => repeat (first | exact (Kd.C_below HR0_3.out HB.out) | (with_reducible refine Kd.C_alloc ?_ _) | (with_reducible refine Kd.C_drewN ?_ _) | (with_reducible refine Kd.C_drew ?_))); (case side2 => exact HC0_3.out); rintro e w' ⟨rfl, ⟨nd, rfl⟩⟩))
                        go_ret
                        exact ⟨by first | rfl | (simp [errW_none, errW_some] <;> rfl) | (simp [*, errW_none, errW_some] <;> rfl), by repeat (first | (with_reducible first | exact HB.out | apply below_alloc | apply pw_below_drewN | apply below_drew1 | refine below_set ?_ GE275.out) | exact HB.out)⟩
                      · rw [if_neg c35] at H
                        have c35b0 : ((l0_3.length : Int) == (l0_4.length : Int)) = false := beq_eq_false_iff_ne.mpr c35
                        have c35b1 : ((l0_3.length : Int) != (l0_4.length : Int)) = true := bne_iff_ne.mpr c35
                        have c35b2 : (l0_3.length == l0_4.length) = false := by first | simpa using c35 | (simp at c35 ⊢; omega)
                        obtain rfl := Option.some.inj H
                        have hcz38_0 : wc.cell? ⟨gb275, 0, none⟩ = some (.int .i64 a0_0) := (blk_cell BK275.out 0).trans rfl
                        have hcz38_1 : wc.cell? ⟨gb275, 1, none⟩ = some (.int .i64 a0_1) := (blk_cell BK275.out 1).trans rfl
                        have hcz38_2 : wc.cell? ⟨gb275, 2, none⟩ = some (.string a0_2) := (blk_cell BK275.out 2).trans rfl
                        have hcz38_3 : wc.cell? ⟨gb275, 3, none⟩ = some (.slice A0_3 l0_3.length c0_3) := (blk_cell BK275.out 3).trans rfl
                        have hcz38_4 : wc.cell? ⟨gb275, 4, none⟩ = some (.slice A0_4 l0_4.length c0_4) := (blk_cell BK275.out 4).trans rfl
                        have hfz38_0 := blk_frozen BK275.out 0
                        have hfz38_1 := blk_frozen BK275.out 1
                        have hfz38_2 := blk_frozen BK275.out 2
                        have hfz38_3 := blk_frozen BK275.out 3
                        have hfz38_4 := blk_frozen BK275.out 4
                        go_wp2
                        go_ret
                        exact ⟨by first | rfl | (simp [errW_none, errW_some] <;> rfl) | (simp [*, errW_none, errW_some] <;> rfl), by repeat (first | (with_reducible first | exact HB.out | apply below_alloc | apply pw_below_drewN | apply below_drew1 | refine below_set ?_ GE275.out) | exact HB.out)⟩
                    · rw [if_neg c34] at H
                      have c34b0 : (a0_1 == 0) = false := beq_eq_false_iff_ne.mpr c34
                      have c34b1 : (a0_1 != 0) = true := bne_iff_ne.mpr c34
                      obtain rfl := Option.some.inj H
                      have hcz39_0 : wc.cell? ⟨gb275, 0, none⟩ = some (.int .i64 a0_0) := (blk_cell BK275.out 0).trans rfl
                      have hcz39_1 : wc.cell? ⟨gb275, 1, none⟩ = some (.int .i64 a0_1) := (blk_cell BK275.out 1).trans rfl
                      have hcz39_2 : wc.cell? ⟨gb275, 2, none⟩ = some (.string a0_2) := (blk_cell BK275.out 2).trans rfl
                      have hcz39_3 : wc.cell? ⟨gb275, 3, none⟩ = some (.slice A0_3 l0_3.length c0_3) := (blk_cell BK275.out 3).trans rfl
                      have hcz39_4 : wc.cell? ⟨gb275, 4, none⟩ = some (.slice A0_4 l0_4.length c0_4) := (blk_cell BK275.out 4).trans rfl
                      have hfz39_0 := blk_frozen BK275.out 0
                      have hfz39_1 := blk_frozen BK275.out 1
                      have hfz39_2 := blk_frozen BK275.out 2
                      have hfz39_3 := blk_frozen BK275.out 3
                      have hfz39_4 := blk_frozen BK275.out 4
                      go_wp2
                      go_ret
                      exact ⟨by first | rfl | (simp [errW_none, errW_some] <;> rfl) | (simp [*, errW_none, errW_some] <;> rfl), by repeat (first | (with_reducible first | exact HB.out | apply below_alloc | apply pw_below_drewN | apply below_drew1 | refine below_set ?_ GE275.out) | exact HB.out)⟩
                  · rw [if_neg c33] at H
                    have c33b0 : (a0_0 == 3) = false := beq_eq_false_iff_ne.mpr c33
                    have c33b1 : (a0_0 != 3) = true := bne_iff_ne.mpr c33
                    by_cases c40 : a0_0 = 4
                    · rw [if_pos c40] at H
                      have c40b0 : (a0_0 == 4) = true := beq_iff_eq.mpr c40
                      have c40b1 : (a0_0 != 4) = false := bne_eq_false_iff_eq.mpr c40
                      clear c40
                      by_cases c41 : a0_1 = 0
                      · rw [if_pos c41] at H
                        have c41b0 : (a0_1 == 0) = true := beq_iff_eq.mpr c41
                        have c41b1 : (a0_1 != 0) = false := bne_eq_false_iff_eq.mpr c41
                        clear c41
                        obtain rfl := Option.some.inj H
                        have hcz42_0 : wc.cell? ⟨gb275, 0, none⟩ = some (.int .i64 a0_0) := (blk_cell BK275.out 0).trans rfl
                        have hcz42_1 : wc.cell? ⟨gb275, 1, none⟩ = some (.int .i64 a0_1) := (blk_cell BK275.out 1).trans rfl
                        have hcz42_2 : wc.cell? ⟨gb275, 2, none⟩ = some (.string a0_2) := (blk_cell BK275.out 2).trans rfl
                        have hcz42_3 : wc.cell? ⟨gb275, 3, none⟩ = some (.slice A0_3 l0_3.length c0_3) := (blk_cell BK275.out 3).trans rfl
                        have hcz42_4 : wc.cell? ⟨gb275, 4, none⟩ = some (.slice A0_4 l0_4.length c0_4) := (blk_cell BK275.out 4).trans rfl
                        have hfz42_0 := blk_frozen BK275.out 0
                        have hfz42_1 := blk_frozen BK275.out 1
                        have hfz42_2 := blk_frozen BK275.out 2
                        have hfz42_3 := blk_frozen BK275.out 3
                        have hfz42_4 := blk_frozen BK275.out 4
                        go_wp2
                        go_ret
                        exact ⟨by first | rfl | (simp [errW_none, errW_some] <;> rfl) | (simp [*, errW_none, errW_some] <;> rfl), by repeat (first | (with_reducible first | exact HB.out | apply below_alloc | apply pw_below_drewN | apply below_drew1 | refine below_set ?_ GE275.out) | exact HB.out)⟩
                      · rw [if_neg c41] at H
                        have c41b0 : (a0_1 == 0) = false := beq_eq_false_iff_ne.mpr c41
                        have c41b1 : (a0_1 != 0) = true := bne_iff_ne.mpr c41
                        obtain rfl := Option.some.inj H
                        have hcz43_0 : wc.cell? ⟨gb275, 0, none⟩ = some (.int .i64 a0_0) := (blk_cell BK275.out 0).trans rfl
                        have hcz43_1 : wc.cell? ⟨gb275, 1, none⟩ = some (.int .i64 a0_1) := (blk_cell BK275.out 1).trans rfl
                        have hcz43_2 : wc.cell? ⟨gb275, 2, none⟩ = some (.string a0_2) := (blk_cell BK275.out 2).trans rfl
                        have hcz43_3 : wc.cell? ⟨gb275, 3, none⟩ = some (.slice A0_3 l0_3.length c0_3) := (blk_cell BK275.out 3).trans rfl
                        have hcz43_4 : wc.cell? ⟨gb275, 4, none⟩ = some (.slice A0_4 l0_4.length c0_4) := (blk_cell BK275.out 4).trans rfl
                        have hfz43_0 := blk_frozen BK275.out 0
                        have hfz43_1 := blk_frozen BK275.out 1
                        have hfz43_2 := blk_frozen BK275.out 2
                        have hfz43_3 := blk_frozen BK275.out 3
                        have hfz43_4 := blk_frozen BK275.out 4
                        go_wp2
                        go_ret
                        exact ⟨by first | rfl | (simp [errW_none, errW_some] <;> rfl) | (simp [*, errW_none, errW_some] <;> rfl), by repeat (first | (with_reducible first | exact HB.out | apply below_alloc | apply pw_below_drewN | apply below_drew1 | refine below_set ?_ GE275.out) | exact HB.out)⟩
                    · rw [if_neg c40] at H
                      have c40b0 : (a0_0 == 4) = false := beq_eq_false_iff_ne.mpr c40
                      have c40b1 : (a0_0 != 4) = true := bne_iff_ne.mpr c40
                      by_cases c44 : a0_0 = 5
                      · rw [if_pos c44] at H
                        have c44b0 : (a0_0 == 5) = true := beq_iff_eq.mpr c44
                        have c44b1 : (a0_0 != 5) = false := bne_eq_false_iff_eq.mpr c44
                        clear c44
                        obtain rfl := Option.some.inj H
                        have hcz45_0 : wc.cell? ⟨gb275, 0, none⟩ = some (.int .i64 a0_0) := (blk_cell BK275.out 0).trans rfl
                        have hcz45_1 : wc.cell? ⟨gb275, 1, none⟩ = some (.int .i64 a0_1) := (blk_cell BK275.out 1).trans rfl
                        have hcz45_2 : wc.cell? ⟨gb275, 2, none⟩ = some (.string a0_2) := (blk_cell BK275.out 2).trans rfl
                        have hcz45_3 : wc.cell? ⟨gb275, 3, none⟩ = some (.slice A0_3 l0_3.length c0_3) := (blk_cell BK275.out 3).trans rfl
                        have hcz45_4 : wc.cell? ⟨gb275, 4, none⟩ = some (.slice A0_4 l0_4.length c0_4) := (blk_cell BK275.out 4).trans rfl
                        have hfz45_0 := blk_frozen BK275.out 0
                        have hfz45_1 := blk_frozen BK275.out 1
                        have hfz45_2 := blk_frozen BK275.out 2
                        have hfz45_3 := blk_frozen BK275.out 3
                        have hfz45_4 := blk_frozen BK275.out 4
                        go_wp2
                        go_ret
                        exact ⟨by first | rfl | (simp [errW_none, errW_some] <;> rfl) | (simp [*, errW_none, errW_some] <;> rfl), by repeat (first | (with_reducible first | exact HB.out | apply below_alloc | apply pw_below_drewN | apply below_drew1 | refine below_set ?_ GE275.out) | exact HB.out)⟩
                      · rw [if_neg c44] at H
                        have c44b0 : (a0_0 == 5) = false := beq_eq_false_iff_ne.mpr c44
                        have c44b1 : (a0_0 != 5) = true := bne_iff_ne.mpr c44
                        obtain rfl := Option.some.inj H
                        have hcz46_0 : wc.cell? ⟨gb275, 0, none⟩ = some (.int .i64 a0_0) := (blk_cell BK275.out 0).trans rfl
                        have hcz46_1 : wc.cell? ⟨gb275, 1, none⟩ = some (.int .i64 a0_1) := (blk_cell BK275.out 1).trans rfl
                        have hcz46_2 : wc.cell? ⟨gb275, 2, none⟩ = some (.string a0_2) := (blk_cell BK275.out 2).trans rfl
                        have hcz46_3 : wc.cell? ⟨gb275, 3, none⟩ = some (.slice A0_3 l0_3.length c0_3) := (blk_cell BK275.out 3).trans rfl
                        have hcz46_4 : wc.cell? ⟨gb275, 4, none⟩ = some (.slice A0_4 l0_4.length c0_4) := (blk_cell BK275.out 4).trans rfl
                        have hfz46_0 := blk_frozen BK275.out 0
                        have hfz46_1 := blk_frozen BK275.out 1
                        have hfz46_2 := blk_frozen BK275.out 2
                        have hfz46_3 := blk_frozen BK275.out 3
                        have hfz46_4 := blk_frozen BK275.out 4
                        go_wp2
                        go_ret
                        exact ⟨by first | rfl | (simp [errW_none, errW_some] <;> rfl) | (simp [*, errW_none, errW_some] <;> rfl), by repeat (first | (with_reducible first | exact HB.out | apply below_alloc | apply pw_below_drewN | apply below_drew1 | refine below_set ?_ GE275.out) | exact HB.out)⟩

/-! ### spec_IsValue: function 19 -/
def spec_IsValue.f (k : Nat) (a0_0 : Int) (a0_1 : Int) (a0_2 : ByteArray) (l0_3 : List ByteArray) (l0_4 : List (S30)) : Option (Bool) := (spec_l5Left.f k a0_0 a0_1 a0_2 l0_3 l0_4 300).bind fun t282 => (if t282 ≥ 0 then ((spec_l5Form.f k a0_0 a0_1 a0_2 l0_3 l0_4).bind fun t283 => (some t283)) else (some false))
theorem spec_IsValue.mono : ∀ a0 a1 a2 a3 a4 k, LeO (spec_IsValue.f k a0 a1 a2 a3 a4) (spec_IsValue.f (k + 1) a0 a1 a2 a3 a4) := by
  intro a0 a1 a2 a3 a4 k
  unfold spec_IsValue.f
  repeat' first
      | (with_reducible exact spec_l5Form.mono _ _ _ _ _ _)
      | (with_reducible exact spec_l5Left.mono _ _ _ _ _ _ _)
      | (with_reducible exact LeO.refl _)
      | (with_reducible exact LeO.none _)
      | (with_reducible refine LeO.ite ?_ ?_)
      | (with_reducible refine LeO.bind ?_ (fun _ => ?_))
      | exact spec_l5Form.mono _ _ _ _ _ _
      | exact spec_l5Left.mono _ _ _ _ _ _ _
      | exact LeO.none _
      | refine LeO.ite ?_ ?_
      | refine LeO.bind ?_ (fun _ => ?_)
set_option maxHeartbeats 8000000 in
set_option maxRecDepth 100000 in
theorem spec_IsValue.calls (k : Nat) (a0_0 : Int) (a0_1 : Int) (a0_2 : ByteArray) (A0_3 : Option Addr) (c0_3 : Nat) (l0_3 : List ByteArray) (A0_4 : Option Addr) (c0_4 : Nat) (l0_4 : List (S30)) (r : Bool) (w : World) (hr0_3 : Kd.C Kd.string w A0_3 l0_3.length l0_3) (hc0_3 : l0_3.length ≤ c0_3) (hr0_4 : Kd.C k30 w A0_4 l0_4.length l0_4) (hc0_4 : l0_4.length ≤ c0_4) (h : spec_IsValue.f k a0_0 a0_1 a0_2 l0_3 l0_4 = some r) :
    Calls Try.prog 19 #[.agg #[.int .i64 a0_0, .int .i64 a0_1, .string a0_2, .slice A0_3 l0_3.length c0_3, .slice A0_4 l0_4.length c0_4]] w fun e w' => e = .returned (.bool r) ∧ Below w.heap.size w w' := by
  have hu30 := Try.underlying30
  have HR0_3 := Aside0.mk hr0_3
  have HC0_3 := Aside0.mk hc0_3
  clear hr0_3 hc0_3
  have HR0_4 := Aside0.mk hr0_4
  have HC0_4 := Aside0.mk hc0_4
  clear hr0_4 hc0_4
  have HB := Aside0.mk (Below.refl w.heap.size w)
  have H : ((spec_l5Left.f k a0_0 a0_1 a0_2 l0_3 l0_4 300).bind fun t282 => (if t282 ≥ 0 then ((spec_l5Form.f k a0_0 a0_1 a0_2 l0_3 l0_4).bind fun t283 => (some t283)) else (some false))) = some r := h
  clear h
  replace H := Option.bind_eq_some_iff.mp H
  obtain ⟨t282, A20, H⟩ := H
  replace H : (if t282 ≥ 0 then ((spec_l5Form.f k a0_0 a0_1 a0_2 l0_3 l0_4).bind fun t283 => (some t283)) else (some false)) = some r := H
  have A2 := Aside0.mk A20
  clear A20
  by_cases c3 : t282 ≥ 0
  · rw [if_pos c3] at H
    have c3b0 : decide (0 ≤ t282) = true := decide_eq_true c3
    clear c3
    replace H := Option.bind_eq_some_iff.mp H
    obtain ⟨t283, A40, H⟩ := H
    replace H : (some t283) = some r := H
    have A4 := Aside0.mk A40
    clear A40
    obtain rfl := Option.some.inj H
    go_enter Try.func19, Try.ntmps19
    go_wp2_with (first | ((with_reducible refine gate_dst (N := 1) rfl ?_); refine box_event ?hg (N := 1) ?hd (cs := #[.int .i64 a0_0, .int .i64 a0_1, .string a0_2, .slice A0_3 l0_3.length c0_3, .slice A0_4 l0_4.length c0_4]) (t := 30) ?hr ?_; (case hd => rfl); (case hg => rfl); (case hr => first | (go_simp; done) | (go_simp; rfl)); intro gb281 hg w5 hbox hb; have n0_ := Aside0.mk (below_step (by repeat (first | (with_reducible first | exact HB.out | apply below_alloc | apply pw_below_drewN | apply below_drew1) | exact HB.out)) hb); have n1_ := Aside0.mk (hbox); have n2_ := Aside0.mk ((by rw [hg]; exact (below_size (by repeat (first | (with_reducible first | exact HB.out | apply below_alloc | apply pw_below_drewN | apply below_drew1) | exact HB.out))) : w.heap.size ≤ gb281)); have n3_ := Aside0.mk ((by rw [hg]; exact (below_size (by repeat (first | (with_reducible first | exact HB.out | apply below_alloc | apply pw_below_drewN | apply below_drew1) | exact HB.out))) : w.heap.size ≤ gb281)); clear HB; have HB := n0_; have BK281 := n1_; have GW281 := n2_; have GE281 := n3_; clear n0_ n1_ n2_ n3_; clear hb hbox hg; have hcz6_0 : w5.cell? ⟨gb281, 0, none⟩ = some (.int .i64 a0_0) := (blk_cell BK281.out 0).trans rfl; have hcz6_1 : w5.cell? ⟨gb281, 1, none⟩ = some (.int .i64 a0_1) := (blk_cell BK281.out 1).trans rfl; have hcz6_2 : w5.cell? ⟨gb281, 2, none⟩ = some (.string a0_2) := (blk_cell BK281.out 2).trans rfl; have hcz6_3 : w5.cell? ⟨gb281, 3, none⟩ = some (.slice A0_3 l0_3.length c0_3) := (blk_cell BK281.out 3).trans rfl; have hcz6_4 : w5.cell? ⟨gb281, 4, none⟩ = some (.slice A0_4 l0_4.length c0_4) := (blk_cell BK281.out 4).trans rfl; have hfz6_0 := blk_frozen BK281.out 0; have hfz6_1 := blk_frozen BK281.out 1; have hfz6_2 := blk_frozen BK281.out 2; have hfz6_3 := blk_frozen BK281.out 3; have hfz6_4 := blk_frozen BK281.out 4) | ((with_reducible refine gate_callee (f := 52) rfl ?_); refine goesL_ (some 4) rfl rfl Try.func52 (by kernel_rfl) rfl #[.agg #[.int .i64 a0_0, .int .i64 a0_1, .string a0_2, .slice A0_3 l0_3.length c0_3, .slice A0_4 l0_4.length c0_4], .int .i64 300] rfl (by (try simp only [List.map_toArray, List.map_cons, List.map_nil]); first | done | rfl | (simp only [List.length_drop, List.length_take]; rfl)) ?_; (with_reducible refine (spec_l5Left.calls k a0_0 a0_1 a0_2 _ _ l0_3 _ _ l0_4 300 t282 _ ?side1 ?side2 ?side3 ?side4 A2.out).mono ?_); (case side1 => repeat (first | exact (Kd.C_below HR0_3.out HB.out) | (with_reducible refine Kd.C_alloc ?_ _) | (with_reducible refine Kd.C_drewN ?_ _) | (with_reducible refine Kd.C_drew ?_))); (case side2 => exact HC0_3.out); (case side3 => repeat (first | exact (Kd.C_below HR0_4.out HB.out) | (with_reducible refine Kd.C_alloc ?_ _) | (with_reducible refine Kd.C_drewN ?_ _) | (with_reducible refine Kd.C_drew ?_))); (case side4 => exact HC0_4.out); rintro e w7 ⟨rfl, hb⟩; refine ⟨_, rfl, ?_⟩; have n0_ := Aside0.mk (blk_below (g := gb281) (o := .cells #[.int .i64 a0_0, .int .i64 a0_1, .string a0_2, .slice A0_3 l0_3.length c0_3, .slice A0_4 l0_4.length c0_4] 30 (0, 0)) (by (with_reducible repeat (first | refine blk_drewN ?_ _ | refine blk_drew ?_ | refine blk_alloc ?_ _)); exact BK281.out) hb); have n1_ := Aside0.mk (below_step (by repeat (first | (with_reducible first | exact HB.out | apply below_alloc | apply pw_below_drewN | apply below_drew1 | refine below_set ?_ GE281.out) | exact HB.out)) hb); clear BK281; clear HB; have BK281 := n0_; have HB := n1_; clear n0_ n1_; (try clear hb); (try clear hb2); (try clear hk); (try clear hi); have hcz8_0 : w7.cell? ⟨gb281, 0, none⟩ = some (.int .i64 a0_0) := (blk_cell BK281.out 0).trans rfl; have hcz8_1 : w7.cell? ⟨gb281, 1, none⟩ = some (.int .i64 a0_1) := (blk_cell BK281.out 1).trans rfl; have hcz8_2 : w7.cell? ⟨gb281, 2, none⟩ = some (.string a0_2) := (blk_cell BK281.out 2).trans rfl; have hcz8_3 : w7.cell? ⟨gb281, 3, none⟩ = some (.slice A0_3 l0_3.length c0_3) := (blk_cell BK281.out 3).trans rfl; have hcz8_4 : w7.cell? ⟨gb281, 4, none⟩ = some (.slice A0_4 l0_4.length c0_4) := (blk_cell BK281.out 4).trans rfl; have hfz8_0 := blk_frozen BK281.out 0; have hfz8_1 := blk_frozen BK281.out 1; have hfz8_2 := blk_frozen BK281.out 2; have hfz8_3 := blk_frozen BK281.out 3; have hfz8_4 := blk_frozen BK281.out 4) | (go_at_call 53; (with_reducible refine (spec_l5Form.calls k a0_0 a0_1 a0_2 _ _ l0_3 _ _ l0_4 t283 _ ?side1 ?side2 ?side3 ?side4 A4.out).mono ?_); (case side1 => repeat (first | exact (Kd.C_below HR0_3.out HB.out) | (with_reducible refine Kd.C_alloc ?_ _) | (with_reducible refine Kd.C_drewN ?_ _) | (with_reducible refine Kd.C_drew ?_))); (case side2 => exact HC0_3.out); (case side3 => repeat (first | exact (Kd.C_below HR0_4.out HB.out) | (with_reducible refine Kd.C_alloc ?_ _) | (with_reducible refine Kd.C_drewN ?_ _) | (with_reducible refine Kd.C_drew ?_))); (case side4 => exact HC0_4.out); rintro e w9 ⟨rfl, hb⟩; have n0_ := Aside0.mk (blk_below (g := gb281) (o := .cells #[.int .i64 a0_0, .int .i64 a0_1, .string a0_2, .slice A0_3 l0_3.length c0_3, .slice A0_4 l0_4.length c0_4] 30 (0, 0)) (by (with_reducible repeat (first | refine blk_drewN ?_ _ | refine blk_drew ?_ | refine blk_alloc ?_ _)); exact BK281.out) hb); have n1_ := Aside0.mk (below_step (by repeat (first | (with_reducible first | exact HB.out | apply below_alloc | apply pw_below_drewN | apply below_drew1 | refine below_set ?_ GE281.out) | exact HB.out)) hb); clear BK281; clear HB; have BK281 := n0_; have HB := n1_; clear n0_ n1_; (try clear hb); (try clear hb2); (try clear hk); (try clear hi)))
    go_ret
    exact ⟨by first | rfl | (simp [errW_none, errW_some] <;> rfl) | (simp [*, errW_none, errW_some] <;> rfl), by repeat (first | (with_reducible first | exact HB.out | apply below_alloc | apply pw_below_drewN | apply below_drew1 | refine below_set ?_ GE281.out) | exact HB.out)⟩
  · rw [if_neg c3] at H
    have c3b0 : decide (0 ≤ t282) = false := decide_eq_false c3
    clear c3
    obtain rfl := Option.some.inj H
    go_enter Try.func19, Try.ntmps19
    go_wp2_with (first | ((with_reducible refine gate_dst (N := 1) rfl ?_); refine box_event ?hg (N := 1) ?hd (cs := #[.int .i64 a0_0, .int .i64 a0_1, .string a0_2, .slice A0_3 l0_3.length c0_3, .slice A0_4 l0_4.length c0_4]) (t := 30) ?hr ?_; (case hd => rfl); (case hg => rfl); (case hr => first | (go_simp; done) | (go_simp; rfl)); intro gb281 hg w10 hbox hb; have n0_ := Aside0.mk (below_step (by repeat (first | (with_reducible first | exact HB.out | apply below_alloc | apply pw_below_drewN | apply below_drew1) | exact HB.out)) hb); have n1_ := Aside0.mk (hbox); have n2_ := Aside0.mk ((by rw [hg]; exact (below_size (by repeat (first | (with_reducible first | exact HB.out | apply below_alloc | apply pw_below_drewN | apply below_drew1) | exact HB.out))) : w.heap.size ≤ gb281)); have n3_ := Aside0.mk ((by rw [hg]; exact (below_size (by repeat (first | (with_reducible first | exact HB.out | apply below_alloc | apply pw_below_drewN | apply below_drew1) | exact HB.out))) : w.heap.size ≤ gb281)); clear HB; have HB := n0_; have BK281 := n1_; have GW281 := n2_; have GE281 := n3_; clear n0_ n1_ n2_ n3_; clear hb hbox hg; have hcz11_0 : w10.cell? ⟨gb281, 0, none⟩ = some (.int .i64 a0_0) := (blk_cell BK281.out 0).trans rfl; have hcz11_1 : w10.cell? ⟨gb281, 1, none⟩ = some (.int .i64 a0_1) := (blk_cell BK281.out 1).trans rfl; have hcz11_2 : w10.cell? ⟨gb281, 2, none⟩ = some (.string a0_2) := (blk_cell BK281.out 2).trans rfl; have hcz11_3 : w10.cell? ⟨gb281, 3, none⟩ = some (.slice A0_3 l0_3.length c0_3) := (blk_cell BK281.out 3).trans rfl; have hcz11_4 : w10.cell? ⟨gb281, 4, none⟩ = some (.slice A0_4 l0_4.length c0_4) := (blk_cell BK281.out 4).trans rfl; have hfz11_0 := blk_frozen BK281.out 0; have hfz11_1 := blk_frozen BK281.out 1; have hfz11_2 := blk_frozen BK281.out 2; have hfz11_3 := blk_frozen BK281.out 3; have hfz11_4 := blk_frozen BK281.out 4) | ((with_reducible refine gate_callee (f := 52) rfl ?_); refine goesL_ (some 4) rfl rfl Try.func52 (by kernel_rfl) rfl #[.agg #[.int .i64 a0_0, .int .i64 a0_1, .string a0_2, .slice A0_3 l0_3.length c0_3, .slice A0_4 l0_4.length c0_4], .int .i64 300] rfl (by (try simp only [List.map_toArray, List.map_cons, List.map_nil]); first | done | rfl | (simp only [List.length_drop, List.length_take]; rfl)) ?_; (with_reducible refine (spec_l5Left.calls k a0_0 a0_1 a0_2 _ _ l0_3 _ _ l0_4 300 t282 _ ?side1 ?side2 ?side3 ?side4 A2.out).mono ?_); (case side1 => repeat (first | exact (Kd.C_below HR0_3.out HB.out) | (with_reducible refine Kd.C_alloc ?_ _) | (with_reducible refine Kd.C_drewN ?_ _) | (with_reducible refine Kd.C_drew ?_))); (case side2 => exact HC0_3.out); (case side3 => repeat (first | exact (Kd.C_below HR0_4.out HB.out) | (with_reducible refine Kd.C_alloc ?_ _) | (with_reducible refine Kd.C_drewN ?_ _) | (with_reducible refine Kd.C_drew ?_))); (case side4 => exact HC0_4.out); rintro e w12 ⟨rfl, hb⟩; refine ⟨_, rfl, ?_⟩; have n0_ := Aside0.mk (blk_below (g := gb281) (o := .cells #[.int .i64 a0_0, .int .i64 a0_1, .string a0_2, .slice A0_3 l0_3.length c0_3, .slice A0_4 l0_4.length c0_4] 30 (0, 0)) (by (with_reducible repeat (first | refine blk_drewN ?_ _ | refine blk_drew ?_ | refine blk_alloc ?_ _)); exact BK281.out) hb); have n1_ := Aside0.mk (below_step (by repeat (first | (with_reducible first | exact HB.out | apply below_alloc | apply pw_below_drewN | apply below_drew1 | refine below_set ?_ GE281.out) | exact HB.out)) hb); clear BK281; clear HB; have BK281 := n0_; have HB := n1_; clear n0_ n1_; (try clear hb); (try clear hb2); (try clear hk); (try clear hi)))
    go_ret
    exact ⟨by first | rfl | (simp [errW_none, errW_some] <;> rfl) | (simp [*, errW_none, errW_some] <;> rfl), by repeat (first | (with_reducible first | exact HB.out | apply below_alloc | apply pw_below_drewN | apply below_drew1 | refine below_set ?_ GE281.out) | exact HB.out)⟩

/-! ### impl_nameByte: function 121 -/
def impl_nameByte.f (a0 : Int) (a1 : Bool) : Option (Bool) := if a0 ≥ 97 then (if a0 ≤ 122 then (some true) else (if a1 = true then (some false) else (if a0 ≥ 48 then (some (decide (a0 ≤ 57))) else (some false)))) else (if a1 = true then (some false) else (if a0 ≥ 48 then (some (decide (a0 ≤ 57))) else (some false)))
set_option maxHeartbeats 8000000 in
set_option maxRecDepth 100000 in
theorem impl_nameByte.calls (a0 : Int) (a1 : Bool) (r : Bool) (w : World) (h : impl_nameByte.f a0 a1 = some r) :
    Calls Try.prog 121 #[.int .u8 a0, .bool a1] w fun e w' => e = .returned (.bool r) ∧ Drawn0 w w' := by
  have H : (if a0 ≥ 97 then (if a0 ≤ 122 then (some true) else (if a1 = true then (some false) else (if a0 ≥ 48 then (some (decide (a0 ≤ 57))) else (some false)))) else (if a1 = true then (some false) else (if a0 ≥ 48 then (some (decide (a0 ≤ 57))) else (some false)))) = some r := h
  clear h
  by_cases c3 : a0 ≥ 97
  · rw [if_pos c3] at H
    have c3b0 : decide (97 ≤ a0) = true := decide_eq_true c3
    clear c3
    by_cases c4 : a0 ≤ 122
    · rw [if_pos c4] at H
      have c4b0 : decide (a0 ≤ 122) = true := decide_eq_true c4
      clear c4
      obtain rfl := Option.some.inj H
      go_enter Try.func121, Try.ntmps121
      go_wp2
      go_ret
      exact ⟨by first | rfl | (simp; done) | (simp [*]; done), by repeat (first | exact Drawn0.refl _ | apply Drawn0.step)⟩
    · rw [if_neg c4] at H
      have c4b0 : decide (a0 ≤ 122) = false := decide_eq_false c4
      clear c4
      by_cases c5 : a1 = true
      · subst c5
        have H1 : (some false) = some r := by rw [if_pos rfl] at H; exact H
        clear H
        have H := H1
        clear H1
        obtain rfl := Option.some.inj H
        go_enter Try.func121, Try.ntmps121
        go_wp2
        go_ret
        exact ⟨by first | rfl | (simp; done) | (simp [*]; done), by repeat (first | exact Drawn0.refl _ | apply Drawn0.step)⟩
      · replace c5 := Bool.eq_false_iff.mpr c5
        subst c5
        have H1 : (if a0 ≥ 48 then (some (decide (a0 ≤ 57))) else (some false)) = some r := by rw [if_neg (show ¬ (false = true) by decide)] at H; exact H
        clear H
        have H := H1
        clear H1
        by_cases c6 : a0 ≥ 48
        · rw [if_pos c6] at H
          have c6b0 : decide (48 ≤ a0) = true := decide_eq_true c6
          clear c6
          obtain rfl := Option.some.inj H
          go_enter Try.func121, Try.ntmps121
          go_wp2
          go_ret
          exact ⟨by first | rfl | (simp; done) | (simp [*]; done), by repeat (first | exact Drawn0.refl _ | apply Drawn0.step)⟩
        · rw [if_neg c6] at H
          have c6b0 : decide (48 ≤ a0) = false := decide_eq_false c6
          clear c6
          obtain rfl := Option.some.inj H
          go_enter Try.func121, Try.ntmps121
          go_wp2
          go_ret
          exact ⟨by first | rfl | (simp; done) | (simp [*]; done), by repeat (first | exact Drawn0.refl _ | apply Drawn0.step)⟩
  · rw [if_neg c3] at H
    have c3b0 : decide (97 ≤ a0) = false := decide_eq_false c3
    clear c3
    by_cases c7 : a1 = true
    · subst c7
      have H1 : (some false) = some r := by rw [if_pos rfl] at H; exact H
      clear H
      have H := H1
      clear H1
      obtain rfl := Option.some.inj H
      go_enter Try.func121, Try.ntmps121
      go_wp2
      go_ret
      exact ⟨by first | rfl | (simp; done) | (simp [*]; done), by repeat (first | exact Drawn0.refl _ | apply Drawn0.step)⟩
    · replace c7 := Bool.eq_false_iff.mpr c7
      subst c7
      have H1 : (if a0 ≥ 48 then (some (decide (a0 ≤ 57))) else (some false)) = some r := by rw [if_neg (show ¬ (false = true) by decide)] at H; exact H
      clear H
      have H := H1
      clear H1
      by_cases c8 : a0 ≥ 48
      · rw [if_pos c8] at H
        have c8b0 : decide (48 ≤ a0) = true := decide_eq_true c8
        clear c8
        obtain rfl := Option.some.inj H
        go_enter Try.func121, Try.ntmps121
        go_wp2
        go_ret
        exact ⟨by first | rfl | (simp; done) | (simp [*]; done), by repeat (first | exact Drawn0.refl _ | apply Drawn0.step)⟩
      · rw [if_neg c8] at H
        have c8b0 : decide (48 ≤ a0) = false := decide_eq_false c8
        clear c8
        obtain rfl := Option.some.inj H
        go_enter Try.func121, Try.ntmps121
        go_wp2
        go_ret
        exact ⟨by first | rfl | (simp; done) | (simp [*]; done), by repeat (first | exact Drawn0.refl _ | apply Drawn0.step)⟩

end Go.Proofs.Ytmelflbbeecjfaa.XA
