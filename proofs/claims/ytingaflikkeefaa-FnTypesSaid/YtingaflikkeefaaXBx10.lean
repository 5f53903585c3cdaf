-- Written by myprint.py, a program of this session, which runs the kit's printer with changes of its own. Lean checks it.
import Derived.Test.YtingaflikkeefaaXBx0
import Derived.Test.YtingaflikkeefaaXBx4
import Derived.Test.YtingaflikkeefaaXBx8
import Derived.Test.YtingaflikkeefaaSq
namespace Go.Proofs.Ytingaflikkeefaa.XB
open Go.RowKit Go.Proofs.YtingaflikkeefaaW.PrintWords Go.Proofs.YtingaflikkeefaaW.PrintLast Go.Proofs.YtingaflikkeefaaW.PrintMore Go.Proofs.Ytingaflikkeefaa.Sq
attribute [local go_sem] max2_int min2_int max_two min_two max_three min_three max_four min_four   -- for this text's walks alone
set_option linter.unusedVariables false
set_option linter.unusedSimpArgs false

/-! ### impl_IsUniform: function 25 -/
mutual
def impl_IsUniform.j0 : Nat → Bool → Int → List ByteArray → List (S30) → Option (Bool)
 | 0, _, _, _, _ => none
 | k + 1, x12, x168000, x168001, x168002 => if x12 = true then (some false) else (impl_IsUniform.l0 k x168002 (x168002.length : Int) 0 x168000 x168001 x168002)
def impl_IsUniform.l0 : Nat → List (S30) → Int → Int → Int → List ByteArray → List (S30) → Option (Bool)
 | 0, _, _, _, _, _, _ => none
 | k + 1, x14, x15, x16, x168000, x168001, x168002 => if x16 < x15 then (if 0 ≤ x16 then (if x16 < (x14.length : Int) then (if 0 < (x168002.length : Int) then ((impl_EqualType.f k ((rd_T30 x14 x16).f0) ((rd_T30 x14 x16).f1) ((rd_T30 x14 x16).f2) ((rd_T30 x168002 0).f0) ((rd_T30 x168002 0).f1) ((rd_T30 x168002 0).f2)).bind fun t172 => (if t172 = true then (impl_IsUniform.l0 k x14 x15 (wrap64 (x16 + 1)) x168000 x168001 x168002) else (some false))) else (none)) else (none)) else (none)) else (some true)
end
def impl_IsUniform.f (k : Nat) (a0_0 : Int) (l0_1 : List ByteArray) (l0_2 : List (S30)) : Option (Bool) := (impl_IsValidType.f k a0_0 l0_1 l0_2).bind fun t168 => (if t168 = true then (impl_IsUniform.j0 k (a0_0 != 3) a0_0 l0_1 l0_2) else (impl_IsUniform.j0 k true a0_0 l0_1 l0_2))
theorem impl_IsUniform.mono_l : ∀ k, (∀ y0 y1 y2 y3, LeO (impl_IsUniform.j0 k y0 y1 y2 y3) (impl_IsUniform.j0 (k + 1) y0 y1 y2 y3)) ∧ (∀ y0 y1 y2 y3 y4 y5, LeO (impl_IsUniform.l0 k y0 y1 y2 y3 y4 y5) (impl_IsUniform.l0 (k + 1) y0 y1 y2 y3 y4 y5))
 | 0 => ⟨fun _ _ _ _ r h => by simp [impl_IsUniform.j0] at h, fun _ _ _ _ _ _ r h => by simp [impl_IsUniform.l0] at h⟩
 | k + 1 => by
  obtain ⟨ih0, ih1⟩ := impl_IsUniform.mono_l k
  refine ⟨?_, ?_⟩
  ·intro y0 y1 y2 y3
   unfold impl_IsUniform.j0
   repeat' first
   | (with_reducible exact ih0 _ _ _ _)
   | (with_reducible exact ih1 _ _ _ _ _ _)
   | (with_reducible exact impl_EqualType.mono _ _ _ _ _ _ _)
   | (with_reducible exact impl_IsValidType.mono _ _ _ _)
   | (with_reducible exact LeO.refl _)
   | (with_reducible exact LeO.none _)
   | (with_reducible refine LeO.ite ?_ ?_)
   | (with_reducible refine LeO.bind ?_ (fun _ => ?_))
   | exact ih0 _ _ _ _
   | exact ih1 _ _ _ _ _ _
   | exact impl_EqualType.mono _ _ _ _ _ _ _
   | exact impl_IsValidType.mono _ _ _ _
   | exact LeO.none _
   | refine LeO.ite ?_ ?_
   | refine LeO.bind ?_ (fun _ => ?_)
  ·intro y0 y1 y2 y3 y4 y5
   unfold impl_IsUniform.l0
   repeat' first
   | (with_reducible exact ih0 _ _ _ _)
   | (with_reducible exact ih1 _ _ _ _ _ _)
   | (with_reducible exact impl_EqualType.mono _ _ _ _ _ _ _)
   | (with_reducible exact impl_IsValidType.mono _ _ _ _)
   | (with_reducible exact LeO.refl _)
   | (with_reducible exact LeO.none _)
   | (with_reducible refine LeO.ite ?_ ?_)
   | (with_reducible refine LeO.bind ?_ (fun _ => ?_))
   | exact ih0 _ _ _ _
   | exact ih1 _ _ _ _ _ _
   | exact impl_EqualType.mono _ _ _ _ _ _ _
   | exact impl_IsValidType.mono _ _ _ _
   | exact LeO.none _
   | refine LeO.ite ?_ ?_
   | refine LeO.bind ?_ (fun _ => ?_)
theorem impl_IsUniform.mono : ∀ a0 a1 a2 k, LeO (impl_IsUniform.f k a0 a1 a2) (impl_IsUniform.f (k + 1) a0 a1 a2) := by
 intro a0 a1 a2 k
 obtain ⟨ih0, ih1⟩ := impl_IsUniform.mono_l k
 unfold impl_IsUniform.f
 repeat' first
   | (with_reducible exact ih0 _ _ _ _)
   | (with_reducible exact ih1 _ _ _ _ _ _)
   | (with_reducible exact impl_EqualType.mono _ _ _ _ _ _ _)
   | (with_reducible exact impl_IsValidType.mono _ _ _ _)
   | (with_reducible exact LeO.refl _)
   | (with_reducible exact LeO.none _)
   | (with_reducible refine LeO.ite ?_ ?_)
   | (with_reducible refine LeO.bind ?_ (fun _ => ?_))
   | exact ih0 _ _ _ _
   | exact ih1 _ _ _ _ _ _
   | exact impl_EqualType.mono _ _ _ _ _ _ _
   | exact impl_IsValidType.mono _ _ _ _
   | exact LeO.none _
   | refine LeO.ite ?_ ?_
   | refine LeO.bind ?_ (fun _ => ?_)
set_option maxHeartbeats 8000000 in
set_option maxRecDepth 100000 in
theorem impl_IsUniform.calls (k : Nat) (a0_0 : Int) (A0_1 : Option Addr) (c0_1 : Nat) (l0_1 : List ByteArray) (A0_2 : Option Addr) (c0_2 : Nat) (l0_2 : List (S30)) (r : Bool) (w : World) (hr0_1 : Kd.C Kd.string w A0_1 l0_1.length l0_1) (hc0_1 : l0_1.length ≤ c0_1) (hr0_2 : Kd.C k30 w A0_2 l0_2.length l0_2) (hc0_2 : l0_2.length ≤ c0_2) (h : impl_IsUniform.f k a0_0 l0_1 l0_2 = some r) :
  Calls Try.prog 25 #[.agg #[.int .i64 a0_0, .slice A0_1 l0_1.length c0_1, .slice A0_2 l0_2.length c0_2]] w fun e w' => e = .returned (.bool r) ∧ Below w.heap.size w w' := by
 have hu30 := Try.underlying30
 have HR0_1 := Aside0.mk hr0_1
 have HC0_1 := Aside0.mk hc0_1
 clear hr0_1 hc0_1
 have HR0_2 := Aside0.mk hr0_2
 have HC0_2 := Aside0.mk hc0_2
 clear hr0_2 hc0_2
 have HB := Aside0.mk (Below.refl w.heap.size w)
 have H : ((impl_IsValidType.f k a0_0 l0_1 l0_2).bind fun t168 => (if t168 = true then (impl_IsUniform.j0 k (a0_0 != 3) a0_0 l0_1 l0_2) else (impl_IsUniform.j0 k true a0_0 l0_1 l0_2))) = some r := h
 clear h
 have HC2 := Aside0.mk H
 clear H
 go_enter Try.func25, Try.ntmps25
 go_upto_region 1 with (first | ((with_reducible refine gate_dst (N := 1) rfl ?_); refine box_event ?hg (N := 1) ?hd (cs := #[.int .i64 a0_0, .slice A0_1 l0_1.length c0_1, .slice A0_2 l0_2.length c0_2]) (t := 30) ?hr ?_; (case hd => rfl); (case hg => rfl); (case hr => first | (go_simp; done) | (go_simp; rfl)); intro gb167 hg w3 hbox hb; have BK167 := Aside0.mk (hbox); have GW167 := Aside0.mk ((by rw [hg]; exact (below_size (B0_ HB.out)) : w.heap.size ≤ gb167)); have GE167 := Aside0.mk ((by rw [hg]; exact (below_size (B0_ HB.out)) : w.heap.size ≤ gb167)); replace HB := Aside0.mk (below_step (B0_ HB.out) hb); clear hb hbox hg))
 (try simp only [Act.put, List.setIfInBounds_toArray, List.set_cons_zero, List.set_cons_succ])
 go_cut [12] (fun v12 wc => ∃ (kq : Nat) (x12_1 : Bool), v12 = .bool x12_1 ∧ Aside0 (impl_IsUniform.j0 kq x12_1 a0_0 l0_1 l0_2 = some r) ∧ Aside0 (kq ≤ k) ∧ Aside0 (wc.heap[gb167]? = some (.cells #[.int .i64 a0_0, (.slice A0_1 l0_1.length c0_1), (.slice A0_2 l0_2.length c0_2)] 30 (0, 0))) ∧ Aside0 (Below w.heap.size w wc))
 case first =>
  have H := HC2.out
  clear HC2
  replace H := Option.bind_eq_some_iff.mp H
  obtain ⟨t168, A40, H⟩ := H
  replace H : (if t168 = true then (impl_IsUniform.j0 k (a0_0 != 3) a0_0 l0_1 l0_2) else (impl_IsUniform.j0 k true a0_0 l0_1 l0_2)) = some r := H
  have A4 := Aside0.mk A40
  clear A40
  by_cases c5 : t168 = true
  ·subst c5
   have H1 : (impl_IsUniform.j0 k (a0_0 != 3) a0_0 l0_1 l0_2) = some r := by rw [if_pos rfl] at H; exact H
   clear H
   have H := H1
   clear H1
   have H' := Aside0.mk H
   clear H
   obtain ⟨hcz6_0, hcz6_1, hcz6_2, hfz6_0, hfz6_1, hfz6_2⟩ := box3_ BK167.out
   go_wp2_with (first | ((with_reducible refine gate_callee (f := 23) rfl ?_); refine goesL_ (some 6) rfl rfl Try.func23 (by kernel_rfl) rfl #[.agg #[.int .i64 a0_0, .slice A0_1 l0_1.length c0_1, .slice A0_2 l0_2.length c0_2]] rfl ma_ ?_; (with_reducible refine (impl_IsValidType.calls k a0_0 _ _ l0_1 _ _ l0_2 true _ ?side1 ?side2 ?side3 ?side4 A4.out).mono ?_); (case side1 => exact C_ (Kd.C_below HR0_1.out HB.out)); (case side2 => exact HC0_1.out); (case side3 => exact C_ (Kd.C_below HR0_2.out HB.out)); (case side4 => exact HC0_2.out); rintro e w7 ⟨rfl, hb⟩; refine ⟨_, rfl, ?_⟩; replace BK167 := kb_ BK167 hb; replace HB := Aside0.mk (below_step (B1_ HB.out GE167.out) hb); (try clear hb); (try clear hb2); (try clear hk); (try clear hi); obtain ⟨hcz8_0, hcz8_1, hcz8_2, hfz8_0, hfz8_1, hfz8_2⟩ := box3_ BK167.out))
   go_meet
   case rel => exact ⟨_, ((a0_0 != 3)), q_, H', ⟨le_⟩, ⟨K_ BK167.out⟩, ⟨B1_ HB.out GE167.out⟩⟩
  ·replace c5 := Bool.eq_false_iff.mpr c5
   subst c5
   have H1 : (impl_IsUniform.j0 k true a0_0 l0_1 l0_2) = some r := by rw [if_neg (show ¬ (false = true) by decide)] at H; exact H
   clear H
   have H := H1
   clear H1
   have H' := Aside0.mk H
   clear H
   obtain ⟨hcz9_0, hcz9_1, hcz9_2, hfz9_0, hfz9_1, hfz9_2⟩ := box3_ BK167.out
   go_wp2_with (first | ((with_reducible refine gate_callee (f := 23) rfl ?_); refine goesL_ (some 6) rfl rfl Try.func23 (by kernel_rfl) rfl #[.agg #[.int .i64 a0_0, .slice A0_1 l0_1.length c0_1, .slice A0_2 l0_2.length c0_2]] rfl ma_ ?_; (with_reducible refine (impl_IsValidType.calls k a0_0 _ _ l0_1 _ _ l0_2 false _ ?side1 ?side2 ?side3 ?side4 A4.out).mono ?_); (case side1 => exact C_ (Kd.C_below HR0_1.out HB.out)); (case side2 => exact HC0_1.out); (case side3 => exact C_ (Kd.C_below HR0_2.out HB.out)); (case side4 => exact HC0_2.out); rintro e w10 ⟨rfl, hb⟩; refine ⟨_, rfl, ?_⟩; replace BK167 := kb_ BK167 hb; replace HB := Aside0.mk (below_step (B1_ HB.out GE167.out) hb); (try clear hb); (try clear hb2); (try clear hk); (try clear hi)))
   go_meet
   case rel => exact ⟨_, (true), q_, H', ⟨le_⟩, ⟨K_ BK167.out⟩, ⟨B1_ HB.out GE167.out⟩⟩
 case rest =>
  clear HC2
  obtain ⟨kq, x12_1, rfl, HA, HJ1, BK167, HB⟩ := hcut
  cases kq with
  | zero => exact absurd HA.out (by simp [impl_IsUniform.j0])
  | succ kj1 =>
   have H := HA.out
   clear HA
   simp only [impl_IsUniform.j0] at H
   by_cases c11 : x12_1 = true
   ·subst c11
    have H1 : (some false) = some r := by rw [if_pos rfl] at H; exact H
    clear H
    have H := H1
    clear H1
    obtain rfl := Option.some.inj H
    go_wp2
    go_ret
    exact ⟨er_, B1_ HB.out GE167.out⟩
   ·replace c11 := Bool.eq_false_iff.mpr c11
    subst c11
    have H1 : (impl_IsUniform.l0 kj1 l0_2 (l0_2.length : Int) 0 a0_0 l0_1 l0_2) = some r := by rw [if_neg (show ¬ (false = true) by decide)] at H; exact H
    clear H
    have H := H1
    clear H1
    have H' := Aside0.mk H
    clear H
    obtain ⟨hcz12_0, hcz12_1, hcz12_2, hfz12_0, hfz12_1, hfz12_2⟩ := box3_ BK167.out
    go_wp2
    go_loopg [16] kj1 (fun kq v16 w' => ∃ (x16_2 : Int), v16 = .int .i64 x16_2 ∧ Aside0 (impl_IsUniform.l0 kq l0_2 (l0_2.length : Int) x16_2 a0_0 l0_1 l0_2 = some r) ∧ Aside0 (kq ≤ kj1) ∧ Aside0 (w'.heap[gb167]? = some (.cells #[.int .i64 a0_0, (.slice A0_1 l0_1.length c0_1), (.slice A0_2 l0_2.length c0_2)] 30 (0, 0))) ∧ Aside0 (Below w.heap.size w w'))
    case atStart => exact ⟨(0), q_, H', ⟨Nat.le_refl _⟩, ⟨K_ BK167.out⟩, ⟨B1_ HB.out GE167.out⟩⟩
    case round =>
     clear H'
     try clear c11
     try clear hcz12_0
     try clear hcz12_1
     try clear hcz12_2
     try clear hfz12_0
     try clear hfz12_1
     try clear hfz12_2
     obtain ⟨x16_2, rfl, HA, HK2, BK167, HB⟩ := hrel
     cases gk with
     | zero => exact absurd HA.out (by simp [impl_IsUniform.l0])
     | succ k2 =>
      have H := HA.out
      clear HA
      simp only [impl_IsUniform.l0] at H
      by_cases c13 : x16_2 < (l0_2.length : Int)
      ·rw [if_pos c13] at H
       have c13b0 : decide (x16_2 < (l0_2.length : Int)) = true := decide_eq_true c13
       clear c13
       by_cases c14 : 0 ≤ x16_2
       ·rw [if_pos c14] at H
        have c14b0 : decide (0 ≤ x16_2) = true := decide_eq_true c14
        clear c14
        by_cases c15 : x16_2 < (l0_2.length : Int)
        ·rw [if_pos c15] at H
         have c15b0 : decide (x16_2 < (l0_2.length : Int)) = true := decide_eq_true c15
         clear c15
         by_cases c16 : 0 < (l0_2.length : Int)
         ·rw [if_pos c16] at H
          have c16b0 : decide (0 < (l0_2.length : Int)) = true := decide_eq_true c16
          have c16b1 : decide (0 < l0_2.length) = true := decide_eq_true (by omega)
          clear c16
          replace H := Option.bind_eq_some_iff.mp H
          obtain ⟨t172, A170, H⟩ := H
          replace H : (if t172 = true then (impl_IsUniform.l0 k2 l0_2 (l0_2.length : Int) (wrap64 (x16_2 + 1)) a0_0 l0_1 l0_2) else (some false)) = some r := H
          have A17 := Aside0.mk A170
          clear A170
          by_cases c18 : t172 = true
          ·subst c18
           have H1 : (impl_IsUniform.l0 k2 l0_2 (l0_2.length : Int) (wrap64 (x16_2 + 1)) a0_0 l0_1 l0_2) = some r := by rw [if_pos rfl] at H; exact H
           clear H
           have H := H1
           clear H1
           have H' := Aside0.mk H
           clear H
           have p169 : 0 ≤ (x16_2 : Int) := de_
           have q169 : x16_2 < (l0_2.length : Int) := de_
           obtain ⟨ad169, A169_1, c169_1, A169_2, c169_2, e169, hx169_0, hx169_1, hx169_2, hl169_1, hi169_1, hl169_2, hi169_2⟩ := at_T30 HR0_2.out x16_2 p169 q169
           cases e169
           replace hx169_0 := (HB.out.cell (World.block_lt_of_cell? w _ hx169_0)).trans hx169_0
           replace hx169_1 := (HB.out.cell (World.block_lt_of_cell? w _ hx169_1)).trans hx169_1
           replace hx169_2 := (HB.out.cell (World.block_lt_of_cell? w _ hx169_2)).trans hx169_2
           have HR169_1 := Aside0.mk hi169_1
           have HC169_1 := Aside0.mk hl169_1
           clear hi169_1 hl169_1
           have HR169_2 := Aside0.mk hi169_2
           have HC169_2 := Aside0.mk hl169_2
           clear hi169_2 hl169_2
           replace p169 := eq_true p169
           replace q169 := eq_true q169
           try go_wp2_with (first | ((with_reducible refine gate_dst (N := 4) rfl ?_); refine box_event ?hg (N := 4) ?hd (cs := #[.int .i64 0, .slice none 0 0, .slice none 0 0]) (t := 30) ?hr ?_; (case hd => rfl); (case hg => rfl); (case hr => first | (go_simp; done) | (go_simp; rfl)); intro gb170 hg w19 hbox hb; have BK170 := Aside0.mk (hbox); have GW170 := Aside0.mk ((by rw [hg]; exact (below_size (B1_ HB.out GE167.out)) : w.heap.size ≤ gb170)); have GE170 := Aside0.mk ((by rw [hg]; exact (below_size (B1_ HB.out GE167.out)) : w.heap.size ≤ gb170)); replace HB := Aside0.mk (below_step (B1_ HB.out GE167.out) hb); have NB167_170 := Aside0.mk ((by rw [hg]; exact Nat.ne_of_lt (blk_lt (K_ BK167.out)) : gb167 ≠ gb170)); have NB170_167 := Aside0.mk ((by rw [hg]; exact Nat.ne_of_gt (blk_lt (K_ BK167.out)) : gb170 ≠ gb167)); replace BK167 := kb_ BK167 hb; clear hb hbox hg; have hnb20 := NB170_167.out; have hnc20 := NB167_170.out; obtain ⟨hcz21_0, hcz21_1, hcz21_2, hfz21_0, hfz21_1, hfz21_2⟩ := box3_ BK170.out))
           have n0_ : Aside0 ((((w19.setCell ⟨gb170, 0, none⟩ (.int .i64 ((rd_T30 l0_2 x16_2).f0))).setCell ⟨gb170, 1, none⟩ (.slice A169_1 ((rd_T30 l0_2 x16_2).f1).length c169_1)).setCell ⟨gb170, 2, none⟩ (.slice A169_2 ((rd_T30 l0_2 x16_2).f2).length c169_2)).heap[gb167]? = some (.cells #[.int .i64 a0_0, .slice A0_1 l0_1.length c0_1, .slice (some ad169) l0_2.length c0_2] 30 (0, 0))) := ⟨by (with_reducible repeat (first | refine blk_drewN ?_ _ | refine blk_drew ?_ | refine blk_alloc ?_ _)); refine blk_far ?_ NB167_170.out _; (with_reducible repeat (first | refine blk_drewN ?_ _ | refine blk_drew ?_ | refine blk_alloc ?_ _)); refine blk_far ?_ NB167_170.out _; (with_reducible repeat (first | refine blk_drewN ?_ _ | refine blk_drew ?_ | refine blk_alloc ?_ _)); refine blk_far ?_ NB167_170.out _; (with_reducible repeat (first | refine blk_drewN ?_ _ | refine blk_drew ?_ | refine blk_alloc ?_ _)); exact BK167.out⟩
           have n1_ : Aside0 ((((w19.setCell ⟨gb170, 0, none⟩ (.int .i64 ((rd_T30 l0_2 x16_2).f0))).setCell ⟨gb170, 1, none⟩ (.slice A169_1 ((rd_T30 l0_2 x16_2).f1).length c169_1)).setCell ⟨gb170, 2, none⟩ (.slice A169_2 ((rd_T30 l0_2 x16_2).f2).length c169_2)).heap[gb170]? = some (.cells #[.int .i64 ((rd_T30 l0_2 x16_2).f0), .slice A169_1 ((rd_T30 l0_2 x16_2).f1).length c169_1, .slice A169_2 ((rd_T30 l0_2 x16_2).f2).length c169_2] 30 (0, 0))) := ⟨by (with_reducible repeat (first | refine blk_drewN ?_ _ | refine blk_drew ?_ | refine blk_alloc ?_ _)); refine blk_put (cs := #[.int .i64 ((rd_T30 l0_2 x16_2).f0), .slice A169_1 ((rd_T30 l0_2 x16_2).f1).length c169_1, .slice none 0 0]) ?_ 2 _ rfl; (with_reducible repeat (first | refine blk_drewN ?_ _ | refine blk_drew ?_ | refine blk_alloc ?_ _)); refine blk_put (cs := #[.int .i64 ((rd_T30 l0_2 x16_2).f0), .slice none 0 0, .slice none 0 0]) ?_ 1 _ rfl; (with_reducible repeat (first | refine blk_drewN ?_ _ | refine blk_drew ?_ | refine blk_alloc ?_ _)); refine blk_put (cs := #[.int .i64 0, .slice none 0 0, .slice none 0 0]) ?_ 0 _ rfl; (with_reducible repeat (first | refine blk_drewN ?_ _ | refine blk_drew ?_ | refine blk_alloc ?_ _)); exact BK170.out⟩
           have n2_ : Aside0 (Below w.heap.size w (((w19.setCell ⟨gb170, 0, none⟩ (.int .i64 ((rd_T30 l0_2 x16_2).f0))).setCell ⟨gb170, 1, none⟩ (.slice A169_1 ((rd_T30 l0_2 x16_2).f1).length c169_1)).setCell ⟨gb170, 2, none⟩ (.slice A169_2 ((rd_T30 l0_2 x16_2).f2).length c169_2))) := ⟨B2_ HB.out GE167.out GE170.out⟩
           (try clear BK167)
           (try clear BK170)
           (try clear HB)
           generalize (((w19.setCell ⟨gb170, 0, none⟩ (.int .i64 ((rd_T30 l0_2 x16_2).f0))).setCell ⟨gb170, 1, none⟩ (.slice A169_1 ((rd_T30 l0_2 x16_2).f1).length c169_1)).setCell ⟨gb170, 2, none⟩ (.slice A169_2 ((rd_T30 l0_2 x16_2).f2).length c169_2)) = w22 at n0_ n1_ n2_ ⊢
           have BK167 := n0_
           have BK170 := n1_
           have HB := n2_
           clear n0_ n1_ n2_
           replace BK167 := Aside0.mk (blk_drew BK167.out)
           replace BK170 := Aside0.mk (blk_drew BK170.out)
           replace HB := Aside0.mk (below_drew1 HB.out)
           have p171 : 0 ≤ (0 : Int) := (by omega)
           have q171 : 0 < (l0_2.length : Int) := de_
           obtain ⟨ad171, A171_1, c171_1, A171_2, c171_2, e171, hx171_0, hx171_1, hx171_2, hl171_1, hi171_1, hl171_2, hi171_2⟩ := at_T30 HR0_2.out 0 p171 q171
           have hw171_2 := hx171_2
           (try rw [show ((0 : Int)).toNat = 0 from rfl] at hw171_2)
           (try rw [show 0 * 3 = 0 from rfl] at hw171_2)
           (try rw [Addr.add_zero'] at hw171_2)
           have hw171_1 := hx171_1
           (try rw [show ((0 : Int)).toNat = 0 from rfl] at hw171_1)
           (try rw [show 0 * 3 = 0 from rfl] at hw171_1)
           (try rw [Addr.add_zero'] at hw171_1)
           have hw171_0 := hx171_0
           (try rw [show ((0 : Int)).toNat = 0 from rfl] at hw171_0)
           (try rw [show 0 * 3 = 0 from rfl] at hw171_0)
           (try rw [Addr.add_zero'] at hw171_0)
           obtain rfl : ad169 = ad171 := (by injection e171)
           have qi171 : (0 < l0_2.length) = True := eq_true (by omega)
           (try rw [show ((0 : Int)).toNat = 0 from rfl] at hx171_0)
           (try rw [show 0 * 3 = 0 from rfl] at hx171_0)
           (try rw [Addr.add_zero'] at hx171_0)
           (try rw [show ((0 : Int)).toNat = 0 from rfl] at hx171_1)
           (try rw [show 0 * 3 = 0 from rfl] at hx171_1)
           (try rw [Addr.add_zero'] at hx171_1)
           (try rw [show ((0 : Int)).toNat = 0 from rfl] at hx171_2)
           (try rw [show 0 * 3 = 0 from rfl] at hx171_2)
           (try rw [Addr.add_zero'] at hx171_2)
           replace hx171_0 := (HB.out.cell (World.block_lt_of_cell? w _ hx171_0)).trans hx171_0
           replace hx171_1 := (HB.out.cell (World.block_lt_of_cell? w _ hx171_1)).trans hx171_1
           replace hx171_2 := (HB.out.cell (World.block_lt_of_cell? w _ hx171_2)).trans hx171_2
           have HR171_1 := Aside0.mk hi171_1
           have HC171_1 := Aside0.mk hl171_1
           clear hi171_1 hl171_1
           have HR171_2 := Aside0.mk hi171_2
           have HC171_2 := Aside0.mk hl171_2
           clear hi171_2 hl171_2
           replace p171 := eq_true p171
           replace q171 := eq_true q171
           refine start_ (n := 7) (S := fun w' => w'.cell? ⟨gb170, 0, none⟩ = some (.int .i64 ((rd_T30 l0_2 x16_2).f0)) ∧ w'.cell? ⟨gb170, 1, none⟩ = some (.slice A169_1 ((rd_T30 l0_2 x16_2).f1).length c169_1) ∧ w'.cell? ⟨gb170, 2, none⟩ = some (.slice A169_2 ((rd_T30 l0_2 x16_2).f2).length c169_2) ∧ w'.cell? ⟨gb167, 0, none⟩ = some (.int .i64 a0_0) ∧ w'.cell? ⟨gb167, 1, none⟩ = some (.slice A0_1 l0_1.length c0_1) ∧ w'.cell? ⟨gb167, 2, none⟩ = some (.slice (some ad169) l0_2.length c0_2) ∧ w'.cell? ad169 = some (.int .i64 ((rd_T30 l0_2 0).f0)) ∧ w'.cell? ⟨ad169.block, ad169.off + 1, none⟩ = some (.slice A171_1 ((rd_T30 l0_2 0).f1).length c171_1) ∧ w'.cell? ⟨ad169.block, ad169.off + 2, none⟩ = some (.slice A171_2 ((rd_T30 l0_2 0).f2).length c171_2)) (ds := []) #[false, false, false, false, false, false, false] (by kernel_rfl) rfl rfl ⟨(blk_cell BK170.out 0).trans rfl, (blk_cell BK170.out 1).trans rfl, (blk_cell BK170.out 2).trans rfl, (blk_cell BK167.out 0).trans rfl, (blk_cell BK167.out 1).trans rfl, (blk_cell BK167.out 2).trans rfl, ((HB.out.cell (World.block_lt_of_cell? w _ hw171_0)).trans hw171_0), ((HB.out.cell (World.block_lt_of_cell? w _ hw171_1)).trans hw171_1), ((HB.out.cell (World.block_lt_of_cell? w _ hw171_2)).trans hw171_2)⟩ (fun hHeld => ?_)
           generalize w22.drew = w23 at BK167 BK170 HB HR171_1 HR171_2 hx171_0 hx171_1 hx171_2 hHeld ⊢
           refine pure_ (i := 1) (N := some 21) (v := ?_) (a' := ?_) #[false, true, false, false, false, false, false] rfl rfl (by kernel_rfl) (fun _ _ _ h => h) (Or.inl ⟨by rfl, ?_⟩) ?_ ?_
           rotate_left
           ·intro w'
            go_simp
            with_reducible rfl
           rotate_left
           ·simp only [Act.put, List.setIfInBounds_toArray, List.set_cons_zero, List.set_cons_succ, i64_w, i32_w]
            rfl
           refine take_ (i := 0) (N := some 20) (v := ?_) (a' := ?_) #[true, true, false, false, false, false, false] rfl rfl (by kernel_rfl) (fun _ _ _ h => h) (Or.inl ⟨by rfl, ?_⟩) hHeld ?_ ?_
           rotate_left
           ·rintro w' ⟨s0, s1, s2, s3, s4, s5, s6, s7, s8⟩
            go_simp
            with_reducible rfl
           rotate_left
           ·simp only [Act.put, List.setIfInBounds_toArray, List.set_cons_zero, List.set_cons_succ, i64_w, i32_w]
            rfl
           refine take_ (i := 2) (N := some 22) (v := ?_) (a' := ?_) #[true, true, true, false, false, false, false] rfl rfl (by kernel_rfl) (fun _ _ _ h => h) (Or.inl ⟨by rfl, ?_⟩) hHeld ?_ ?_
           rotate_left
           ·rintro w' ⟨s0, s1, s2, s3, s4, s5, s6, s7, s8⟩
            go_simp
            with_reducible rfl
           rotate_left
           ·simp only [Act.put, List.setIfInBounds_toArray, List.set_cons_zero, List.set_cons_succ, i64_w, i32_w]
            rfl
           refine pure_ (i := 3) (N := some 23) (v := ?_) (a' := ?_) #[true, true, true, true, false, false, false] rfl rfl (by kernel_rfl) (fun _ _ _ h => h) (Or.inl ⟨by rfl, ?_⟩) ?_ ?_
           rotate_left
           ·intro w'
            go_simp
            with_reducible rfl
           rotate_left
           ·simp only [Act.put, List.setIfInBounds_toArray, List.set_cons_zero, List.set_cons_succ, i64_w, i32_w]
            rfl
           refine take_ (i := 4) (N := some 24) (v := ?_) (a' := ?_) #[true, true, true, true, true, false, false] rfl rfl (by kernel_rfl) (fun _ _ _ h => h) (Or.inl ⟨by rfl, ?_⟩) hHeld ?_ ?_
           rotate_left
           ·rintro w' ⟨s0, s1, s2, s3, s4, s5, s6, s7, s8⟩
            go_simp
            with_reducible rfl
           rotate_left
           ·simp only [Act.put, List.setIfInBounds_toArray, List.set_cons_zero, List.set_cons_succ, i64_w, i32_w]
            rfl
           refine one_ (i := 5) (N := some 25) #[true, true, true, true, true, true, false] rfl rfl (by kernel_rfl) (by decide) (fun K hK => ?_)
           refine goes_ Try.func21 (by kernel_rfl) rfl #[.agg #[.int .i64 ((rd_T30 l0_2 x16_2).f0), .slice A169_1 ((rd_T30 l0_2 x16_2).f1).length c169_1, .slice A169_2 ((rd_T30 l0_2 x16_2).f2).length c169_2], .agg #[.int .i64 ((rd_T30 l0_2 0).f0), .slice A171_1 ((rd_T30 l0_2 0).f1).length c171_1, .slice A171_2 ((rd_T30 l0_2 0).f2).length c171_2]] (by rfl) rfl rfl ma_ ?_
           with_reducible refine (impl_EqualType.calls k2 ((rd_T30 l0_2 x16_2).f0) _ _ ((rd_T30 l0_2 x16_2).f1) _ _ ((rd_T30 l0_2 x16_2).f2) ((rd_T30 l0_2 0).f0) _ _ ((rd_T30 l0_2 0).f1) _ _ ((rd_T30 l0_2 0).f2) true _ ?side1 ?side2 ?side3 ?side4 ?side5 ?side6 ?side7 ?side8 A17.out).mono ?_
           (case side1 => exact C_ (Kd.C_below HR169_1.out HB.out))
           (case side2 => exact HC169_1.out)
           (case side3 => exact C_ (Kd.C_below HR169_2.out HB.out))
           (case side4 => exact HC169_2.out)
           (case side5 => exact C_ (Kd.C_below HR171_1.out HB.out))
           (case side6 => exact HC171_1.out)
           (case side7 => exact C_ (Kd.C_below HR171_2.out HB.out))
           (case side8 => exact HC171_2.out)
           rintro e w24 ⟨rfl, hb⟩
           refine ⟨_, rfl, ?_⟩
           replace BK167 := kb_ BK167 hb
           replace BK170 := kb_ BK170 hb
           replace HB := Aside0.mk (below_step (B2_ HB.out GE167.out GE170.out) hb)
           (try clear hb)
           (try clear hb2)
           (try clear hk)
           (try clear hi)
           refine hK.out _ _ ⟨(blk_cell BK170.out 0).trans rfl, (blk_cell BK170.out 1).trans rfl, (blk_cell BK170.out 2).trans rfl, (blk_cell BK167.out 0).trans rfl, (blk_cell BK167.out 1).trans rfl, (blk_cell BK167.out 2).trans rfl, ((HB.out.cell (World.block_lt_of_cell? w _ hw171_0)).trans hw171_0), ((HB.out.cell (World.block_lt_of_cell? w _ hw171_1)).trans hw171_1), ((HB.out.cell (World.block_lt_of_cell? w _ hw171_2)).trans hw171_2)⟩ (fun hHeld => ?_)
           clear hK K
           refine nm_ (some 25) ?_
           refine pure_ (i := 6) (N := some 26) (v := ?_) (a' := ?_) #[true, true, true, true, true, true, true] rfl rfl (by kernel_rfl) (fun _ _ _ h => h) (Or.inl ⟨by rfl, ?_⟩) ?_ ?_
           rotate_left
           ·intro w'
            go_simp
            with_reducible rfl
           rotate_left
           ·simp only [Act.put, List.setIfInBounds_toArray, List.set_cons_zero, List.set_cons_succ, i64_w, i32_w]
            rfl
           refine done_ (by kernel_rfl) ?_
           try go_wp2
           go_roundg k2
           case measure => have := HJ1.out; have := HK2.out; omega
           case rel => exact ⟨(wrap64 (x16_2 + 1)), q_, H', ⟨by have := HJ1.out; have := HK2.out; omega⟩, ⟨K_ BK167.out⟩, ⟨B2_ HB.out GE167.out GE170.out⟩⟩
          ·replace c18 := Bool.eq_false_iff.mpr c18
           subst c18
           have H1 : (some false) = some r := by rw [if_neg (show ¬ (false = true) by decide)] at H; exact H
           clear H
           have H := H1
           clear H1
           obtain rfl := Option.some.inj H
           have p169 : 0 ≤ (x16_2 : Int) := de_
           have q169 : x16_2 < (l0_2.length : Int) := de_
           obtain ⟨ad169, A169_1, c169_1, A169_2, c169_2, e169, hx169_0, hx169_1, hx169_2, hl169_1, hi169_1, hl169_2, hi169_2⟩ := at_T30 HR0_2.out x16_2 p169 q169
           cases e169
           replace hx169_0 := (HB.out.cell (World.block_lt_of_cell? w _ hx169_0)).trans hx169_0
           replace hx169_1 := (HB.out.cell (World.block_lt_of_cell? w _ hx169_1)).trans hx169_1
           replace hx169_2 := (HB.out.cell (World.block_lt_of_cell? w _ hx169_2)).trans hx169_2
           have HR169_1 := Aside0.mk hi169_1
           have HC169_1 := Aside0.mk hl169_1
           clear hi169_1 hl169_1
           have HR169_2 := Aside0.mk hi169_2
           have HC169_2 := Aside0.mk hl169_2
           clear hi169_2 hl169_2
           replace p169 := eq_true p169
           replace q169 := eq_true q169
           try go_wp2_with (first | ((with_reducible refine gate_dst (N := 4) rfl ?_); refine box_event ?hg (N := 4) ?hd (cs := #[.int .i64 0, .slice none 0 0, .slice none 0 0]) (t := 30) ?hr ?_; (case hd => rfl); (case hg => rfl); (case hr => first | (go_simp; done) | (go_simp; rfl)); intro gb170 hg w25 hbox hb; have BK170 := Aside0.mk (hbox); have GW170 := Aside0.mk ((by rw [hg]; exact (below_size (B1_ HB.out GE167.out)) : w.heap.size ≤ gb170)); have GE170 := Aside0.mk ((by rw [hg]; exact (below_size (B1_ HB.out GE167.out)) : w.heap.size ≤ gb170)); replace HB := Aside0.mk (below_step (B1_ HB.out GE167.out) hb); have NB167_170 := Aside0.mk ((by rw [hg]; exact Nat.ne_of_lt (blk_lt (K_ BK167.out)) : gb167 ≠ gb170)); have NB170_167 := Aside0.mk ((by rw [hg]; exact Nat.ne_of_gt (blk_lt (K_ BK167.out)) : gb170 ≠ gb167)); replace BK167 := kb_ BK167 hb; clear hb hbox hg; have hnb26 := NB170_167.out; have hnc26 := NB167_170.out; obtain ⟨hcz27_0, hcz27_1, hcz27_2, hfz27_0, hfz27_1, hfz27_2⟩ := box3_ BK170.out))
           have n0_ : Aside0 ((((w25.setCell ⟨gb170, 0, none⟩ (.int .i64 ((rd_T30 l0_2 x16_2).f0))).setCell ⟨gb170, 1, none⟩ (.slice A169_1 ((rd_T30 l0_2 x16_2).f1).length c169_1)).setCell ⟨gb170, 2, none⟩ (.slice A169_2 ((rd_T30 l0_2 x16_2).f2).length c169_2)).heap[gb167]? = some (.cells #[.int .i64 a0_0, .slice A0_1 l0_1.length c0_1, .slice (some ad169) l0_2.length c0_2] 30 (0, 0))) := ⟨by (with_reducible repeat (first | refine blk_drewN ?_ _ | refine blk_drew ?_ | refine blk_alloc ?_ _)); refine blk_far ?_ NB167_170.out _; (with_reducible repeat (first | refine blk_drewN ?_ _ | refine blk_drew ?_ | refine blk_alloc ?_ _)); refine blk_far ?_ NB167_170.out _; (with_reducible repeat (first | refine blk_drewN ?_ _ | refine blk_drew ?_ | refine blk_alloc ?_ _)); refine blk_far ?_ NB167_170.out _; (with_reducible repeat (first | refine blk_drewN ?_ _ | refine blk_drew ?_ | refine blk_alloc ?_ _)); exact BK167.out⟩
           have n1_ : Aside0 ((((w25.setCell ⟨gb170, 0, none⟩ (.int .i64 ((rd_T30 l0_2 x16_2).f0))).setCell ⟨gb170, 1, none⟩ (.slice A169_1 ((rd_T30 l0_2 x16_2).f1).length c169_1)).setCell ⟨gb170, 2, none⟩ (.slice A169_2 ((rd_T30 l0_2 x16_2).f2).length c169_2)).heap[gb170]? = some (.cells #[.int .i64 ((rd_T30 l0_2 x16_2).f0), .slice A169_1 ((rd_T30 l0_2 x16_2).f1).length c169_1, .slice A169_2 ((rd_T30 l0_2 x16_2).f2).length c169_2] 30 (0, 0))) := ⟨by (with_reducible repeat (first | refine blk_drewN ?_ _ | refine blk_drew ?_ | refine blk_alloc ?_ _)); refine blk_put (cs := #[.int .i64 ((rd_T30 l0_2 x16_2).f0), .slice A169_1 ((rd_T30 l0_2 x16_2).f1).length c169_1, .slice none 0 0]) ?_ 2 _ rfl; (with_reducible repeat (first | refine blk_drewN ?_ _ | refine blk_drew ?_ | refine blk_alloc ?_ _)); refine blk_put (cs := #[.int .i64 ((rd_T30 l0_2 x16_2).f0), .slice none 0 0, .slice none 0 0]) ?_ 1 _ rfl; (with_reducible repeat (first | refine blk_drewN ?_ _ | refine blk_drew ?_ | refine blk_alloc ?_ _)); refine blk_put (cs := #[.int .i64 0, .slice none 0 0, .slice none 0 0]) ?_ 0 _ rfl; (with_reducible repeat (first | refine blk_drewN ?_ _ | refine blk_drew ?_ | refine blk_alloc ?_ _)); exact BK170.out⟩
           have n2_ : Aside0 (Below w.heap.size w (((w25.setCell ⟨gb170, 0, none⟩ (.int .i64 ((rd_T30 l0_2 x16_2).f0))).setCell ⟨gb170, 1, none⟩ (.slice A169_1 ((rd_T30 l0_2 x16_2).f1).length c169_1)).setCell ⟨gb170, 2, none⟩ (.slice A169_2 ((rd_T30 l0_2 x16_2).f2).length c169_2))) := ⟨B2_ HB.out GE167.out GE170.out⟩
           (try clear BK167)
           (try clear BK170)
           (try clear HB)
           generalize (((w25.setCell ⟨gb170, 0, none⟩ (.int .i64 ((rd_T30 l0_2 x16_2).f0))).setCell ⟨gb170, 1, none⟩ (.slice A169_1 ((rd_T30 l0_2 x16_2).f1).length c169_1)).setCell ⟨gb170, 2, none⟩ (.slice A169_2 ((rd_T30 l0_2 x16_2).f2).length c169_2)) = w28 at n0_ n1_ n2_ ⊢
           have BK167 := n0_
           have BK170 := n1_
           have HB := n2_
           clear n0_ n1_ n2_
           replace BK167 := Aside0.mk (blk_drew BK167.out)
           replace BK170 := Aside0.mk (blk_drew BK170.out)
           replace HB := Aside0.mk (below_drew1 HB.out)
           have p171 : 0 ≤ (0 : Int) := (by omega)
           have q171 : 0 < (l0_2.length : Int) := de_
           obtain ⟨ad171, A171_1, c171_1, A171_2, c171_2, e171, hx171_0, hx171_1, hx171_2, hl171_1, hi171_1, hl171_2, hi171_2⟩ := at_T30 HR0_2.out 0 p171 q171
           have hw171_2 := hx171_2
           (try rw [show ((0 : Int)).toNat = 0 from rfl] at hw171_2)
           (try rw [show 0 * 3 = 0 from rfl] at hw171_2)
           (try rw [Addr.add_zero'] at hw171_2)
           have hw171_1 := hx171_1
           (try rw [show ((0 : Int)).toNat = 0 from rfl] at hw171_1)
           (try rw [show 0 * 3 = 0 from rfl] at hw171_1)
           (try rw [Addr.add_zero'] at hw171_1)
           have hw171_0 := hx171_0
           (try rw [show ((0 : Int)).toNat = 0 from rfl] at hw171_0)
           (try rw [show 0 * 3 = 0 from rfl] at hw171_0)
           (try rw [Addr.add_zero'] at hw171_0)
           obtain rfl : ad169 = ad171 := (by injection e171)
           have qi171 : (0 < l0_2.length) = True := eq_true (by omega)
           (try rw [show ((0 : Int)).toNat = 0 from rfl] at hx171_0)
           (try rw [show 0 * 3 = 0 from rfl] at hx171_0)
           (try rw [Addr.add_zero'] at hx171_0)
           (try rw [show ((0 : Int)).toNat = 0 from rfl] at hx171_1)
           (try rw [show 0 * 3 = 0 from rfl] at hx171_1)
           (try rw [Addr.add_zero'] at hx171_1)
           (try rw [show ((0 : Int)).toNat = 0 from rfl] at hx171_2)
           (try rw [show 0 * 3 = 0 from rfl] at hx171_2)
           (try rw [Addr.add_zero'] at hx171_2)
           replace hx171_0 := (HB.out.cell (World.block_lt_of_cell? w _ hx171_0)).trans hx171_0
           replace hx171_1 := (HB.out.cell (World.block_lt_of_cell? w _ hx171_1)).trans hx171_1
           replace hx171_2 := (HB.out.cell (World.block_lt_of_cell? w _ hx171_2)).trans hx171_2
           have HR171_1 := Aside0.mk hi171_1
           have HC171_1 := Aside0.mk hl171_1
           clear hi171_1 hl171_1
           have HR171_2 := Aside0.mk hi171_2
           have HC171_2 := Aside0.mk hl171_2
           clear hi171_2 hl171_2
           replace p171 := eq_true p171
           replace q171 := eq_true q171
           refine start_ (n := 7) (S := fun w' => w'.cell? ⟨gb170, 0, none⟩ = some (.int .i64 ((rd_T30 l0_2 x16_2).f0)) ∧ w'.cell? ⟨gb170, 1, none⟩ = some (.slice A169_1 ((rd_T30 l0_2 x16_2).f1).length c169_1) ∧ w'.cell? ⟨gb170, 2, none⟩ = some (.slice A169_2 ((rd_T30 l0_2 x16_2).f2).length c169_2) ∧ w'.cell? ⟨gb167, 0, none⟩ = some (.int .i64 a0_0) ∧ w'.cell? ⟨gb167, 1, none⟩ = some (.slice A0_1 l0_1.length c0_1) ∧ w'.cell? ⟨gb167, 2, none⟩ = some (.slice (some ad169) l0_2.length c0_2) ∧ w'.cell? ad169 = some (.int .i64 ((rd_T30 l0_2 0).f0)) ∧ w'.cell? ⟨ad169.block, ad169.off + 1, none⟩ = some (.slice A171_1 ((rd_T30 l0_2 0).f1).length c171_1) ∧ w'.cell? ⟨ad169.block, ad169.off + 2, none⟩ = some (.slice A171_2 ((rd_T30 l0_2 0).f2).length c171_2)) (ds := []) #[false, false, false, false, false, false, false] (by kernel_rfl) rfl rfl ⟨(blk_cell BK170.out 0).trans rfl, (blk_cell BK170.out 1).trans rfl, (blk_cell BK170.out 2).trans rfl, (blk_cell BK167.out 0).trans rfl, (blk_cell BK167.out 1).trans rfl, (blk_cell BK167.out 2).trans rfl, ((HB.out.cell (World.block_lt_of_cell? w _ hw171_0)).trans hw171_0), ((HB.out.cell (World.block_lt_of_cell? w _ hw171_1)).trans hw171_1), ((HB.out.cell (World.block_lt_of_cell? w _ hw171_2)).trans hw171_2)⟩ (fun hHeld => ?_)
           generalize w28.drew = w29 at BK167 BK170 HB HR171_1 HR171_2 hx171_0 hx171_1 hx171_2 hHeld ⊢
           refine pure_ (i := 1) (N := some 21) (v := ?_) (a' := ?_) #[false, true, false, false, false, false, false] rfl rfl (by kernel_rfl) (fun _ _ _ h => h) (Or.inl ⟨by rfl, ?_⟩) ?_ ?_
           rotate_left
           ·intro w'
            go_simp
            with_reducible rfl
           rotate_left
           ·simp only [Act.put, List.setIfInBounds_toArray, List.set_cons_zero, List.set_cons_succ, i64_w, i32_w]
            rfl
           refine take_ (i := 0) (N := some 20) (v := ?_) (a' := ?_) #[true, true, false, false, false, false, false] rfl rfl (by kernel_rfl) (fun _ _ _ h => h) (Or.inl ⟨by rfl, ?_⟩) hHeld ?_ ?_
           rotate_left
           ·rintro w' ⟨s0, s1, s2, s3, s4, s5, s6, s7, s8⟩
            go_simp
            with_reducible rfl
           rotate_left
           ·simp only [Act.put, List.setIfInBounds_toArray, List.set_cons_zero, List.set_cons_succ, i64_w, i32_w]
            rfl
           refine take_ (i := 2) (N := some 22) (v := ?_) (a' := ?_) #[true, true, true, false, false, false, false] rfl rfl (by kernel_rfl) (fun _ _ _ h => h) (Or.inl ⟨by rfl, ?_⟩) hHeld ?_ ?_
           rotate_left
           ·rintro w' ⟨s0, s1, s2, s3, s4, s5, s6, s7, s8⟩
            go_simp
            with_reducible rfl
           rotate_left
           ·simp only [Act.put, List.setIfInBounds_toArray, List.set_cons_zero, List.set_cons_succ, i64_w, i32_w]
            rfl
           refine pure_ (i := 3) (N := some 23) (v := ?_) (a' := ?_) #[true, true, true, true, false, false, false] rfl rfl (by kernel_rfl) (fun _ _ _ h => h) (Or.inl ⟨by rfl, ?_⟩) ?_ ?_
           rotate_left
           ·intro w'
            go_simp
            with_reducible rfl
           rotate_left
           ·simp only [Act.put, List.setIfInBounds_toArray, List.set_cons_zero, List.set_cons_succ, i64_w, i32_w]
            rfl
           refine take_ (i := 4) (N := some 24) (v := ?_) (a' := ?_) #[true, true, true, true, true, false, false] rfl rfl (by kernel_rfl) (fun _ _ _ h => h) (Or.inl ⟨by rfl, ?_⟩) hHeld ?_ ?_
           rotate_left
           ·rintro w' ⟨s0, s1, s2, s3, s4, s5, s6, s7, s8⟩
            go_simp
            with_reducible rfl
           rotate_left
           ·simp only [Act.put, List.setIfInBounds_toArray, List.set_cons_zero, List.set_cons_succ, i64_w, i32_w]
            rfl
           refine one_ (i := 5) (N := some 25) #[true, true, true, true, true, true, false] rfl rfl (by kernel_rfl) (by decide) (fun K hK => ?_)
           refine goes_ Try.func21 (by kernel_rfl) rfl #[.agg #[.int .i64 ((rd_T30 l0_2 x16_2).f0), .slice A169_1 ((rd_T30 l0_2 x16_2).f1).length c169_1, .slice A169_2 ((rd_T30 l0_2 x16_2).f2).length c169_2], .agg #[.int .i64 ((rd_T30 l0_2 0).f0), .slice A171_1 ((rd_T30 l0_2 0).f1).length c171_1, .slice A171_2 ((rd_T30 l0_2 0).f2).length c171_2]] (by rfl) rfl rfl ma_ ?_
           with_reducible refine (impl_EqualType.calls k2 ((rd_T30 l0_2 x16_2).f0) _ _ ((rd_T30 l0_2 x16_2).f1) _ _ ((rd_T30 l0_2 x16_2).f2) ((rd_T30 l0_2 0).f0) _ _ ((rd_T30 l0_2 0).f1) _ _ ((rd_T30 l0_2 0).f2) false _ ?side1 ?side2 ?side3 ?side4 ?side5 ?side6 ?side7 ?side8 A17.out).mono ?_
           (case side1 => exact C_ (Kd.C_below HR169_1.out HB.out))
           (case side2 => exact HC169_1.out)
           (case side3 => exact C_ (Kd.C_below HR169_2.out HB.out))
           (case side4 => exact HC169_2.out)
           (case side5 => exact C_ (Kd.C_below HR171_1.out HB.out))
           (case side6 => exact HC171_1.out)
           (case side7 => exact C_ (Kd.C_below HR171_2.out HB.out))
           (case side8 => exact HC171_2.out)
           rintro e w30 ⟨rfl, hb⟩
           refine ⟨_, rfl, ?_⟩
           replace BK167 := kb_ BK167 hb
           replace BK170 := kb_ BK170 hb
           replace HB := Aside0.mk (below_step (B2_ HB.out GE167.out GE170.out) hb)
           (try clear hb)
           (try clear hb2)
           (try clear hk)
           (try clear hi)
           refine hK.out _ _ ⟨(blk_cell BK170.out 0).trans rfl, (blk_cell BK170.out 1).trans rfl, (blk_cell BK170.out 2).trans rfl, (blk_cell BK167.out 0).trans rfl, (blk_cell BK167.out 1).trans rfl, (blk_cell BK167.out 2).trans rfl, ((HB.out.cell (World.block_lt_of_cell? w _ hw171_0)).trans hw171_0), ((HB.out.cell (World.block_lt_of_cell? w _ hw171_1)).trans hw171_1), ((HB.out.cell (World.block_lt_of_cell? w _ hw171_2)).trans hw171_2)⟩ (fun hHeld => ?_)
           clear hK K
           refine nm_ (some 25) ?_
           refine pure_ (i := 6) (N := some 26) (v := ?_) (a' := ?_) #[true, true, true, true, true, true, true] rfl rfl (by kernel_rfl) (fun _ _ _ h => h) (Or.inl ⟨by rfl, ?_⟩) ?_ ?_
           rotate_left
           ·intro w'
            go_simp
            with_reducible rfl
           rotate_left
           ·simp only [Act.put, List.setIfInBounds_toArray, List.set_cons_zero, List.set_cons_succ, i64_w, i32_w]
            rfl
           refine done_ (by kernel_rfl) ?_
           try go_wp2
           go_ret
           exact ⟨er_, B2_ HB.out GE167.out GE170.out⟩
         ·rw [if_neg c16] at H
          exact absurd H (by simp)
        ·rw [if_neg c15] at H
         exact absurd H (by simp)
       ·rw [if_neg c14] at H
        exact absurd H (by simp)
      ·rw [if_neg c13] at H
       have c13b0 : decide (x16_2 < (l0_2.length : Int)) = false := decide_eq_false c13
       clear c13
       obtain rfl := Option.some.inj H
       go_wp2
       go_ret
       exact ⟨er_, B1_ HB.out GE167.out⟩

/-! ### laws_big: function 28 -/
def laws_big.f (l0 : List Int) : Option (Bool) := some (decide ((l0.length : Int) > 1048576))
set_option maxHeartbeats 8000000 in
set_option maxRecDepth 100000 in
theorem laws_big.calls (A0 : Option Addr) (c0 : Nat) (l0 : List Int) (r : Bool) (w : World) (hr0 : Kd.C (Kd.int .u8) w A0 l0.length l0) (hc0 : l0.length ≤ c0) (h : laws_big.f l0 = some r) :
  Calls Try.prog 28 #[.slice A0 l0.length c0] w fun e w' => e = .returned (.bool r) ∧ Drawn0 w w' := by
 have HR0 := Aside0.mk hr0
 have HC0 := Aside0.mk hc0
 clear hr0 hc0
 have H : (some (decide ((l0.length : Int) > 1048576))) = some r := h
 clear h
 obtain rfl := Option.some.inj H
 go_enter Try.func28, Try.ntmps28
 go_wp2
 go_ret
 exact ⟨by first | rfl | (simp; done) | (simp [*]; done), by repeat (first | exact Drawn0.refl _ | apply Drawn0.step)⟩

/-- A state of type 81 at block g of W; what its slices lead to came in by w0. -/
def IsS81 (w0 W : World) (g : Nat) (f0 : List Int) (f1 : Int) (f2 : Int) : Prop := ∃ A0 c0, W.heap[g]? = some (.cells #[.slice A0 f0.length c0, .int .i64 f1, .int .i64 f2] 81 (0, 0)) ∧ w0.heap.size ≤ g ∧ Kd.C (Kd.int .u8) w0 A0 f0.length f0
theorem IsS81.grown {w0 W : World} {g : Nat} {f0 : List Int} {f1 : Int} {f2 : Int} {W1 : World} {row : Option Nat} (h : IsS81 w0 W g f0 f1 f2) (hw : W.grownBy W1 row) (hne : some g ≠ row) : IsS81 w0 W1 g f0 f1 f2 := by
 obtain ⟨A0, c0, hb, hg, hr0⟩ := h
 exact ⟨A0, c0, blk_grown hb hw hne, hg, hr0⟩
theorem IsS81.own_neN {w0 W : World} {g : Nat} {f0 : List Int} {f1 : Int} {f2 : Int} {α : Type} {d : Kd α} {e : Nat} {base : Nat} {ok : Nat → Prop} {v : Value} {xs : List α} (h : IsS81 w0 W g f0 f1 f2) (ho : Kd.N d e W base ok v xs) (ht : e ≠ 81) : some g ≠ v.ownBlock := by
 obtain ⟨A0, c0, hb, hg, hr0⟩ := h
 exact Kd.N_ne ho hb ht
theorem IsS81.fresh {w0 W : World} {g : Nat} {f0 : List Int} {f1 : Int} {f2 : Int} (h : IsS81 w0 W g f0 f1 f2) : ∀ k, W.heap.size ≤ k → k ≠ g := by
 obtain ⟨A0, c0, hb, hg, hr0⟩ := h
 exact Kd.freshB hb
theorem IsS81.kept {w0 W : World} {g : Nat} {f0 : List Int} {f1 : Int} {f2 : Int} {W1 : World} {S : Nat → Prop} (h : IsS81 w0 W g f0 f1 f2) (hk : Kept W W1 S) (hne : ¬ S g) : IsS81 w0 W1 g f0 f1 f2 := by
 obtain ⟨A0, c0, hb, hg, hr0⟩ := h
 exact ⟨A0, c0, blk_kept hb hk hne, hg, hr0⟩
theorem IsS81.below {w0 W : World} {g : Nat} {f0 : List Int} {f1 : Int} {f2 : Int} {W1 : World} (h : IsS81 w0 W g f0 f1 f2) (hw : Below W.heap.size W W1) : IsS81 w0 W1 g f0 f1 f2 := h.grown (grown_of_below hw none) (by simp)
theorem IsS81.alloc {w0 W : World} {g : Nat} {f0 : List Int} {f1 : Int} {f2 : Int} (h : IsS81 w0 W g f0 f1 f2) (o : Obj) : IsS81 w0 (W.alloc o) g f0 f1 f2 := h.below (below_alloc (Below.refl _ _) o)
theorem IsS81.drewN {w0 W : World} {g : Nat} {f0 : List Int} {f1 : Int} {f2 : Int} (h : IsS81 w0 W g f0 f1 f2) (m : Nat) : IsS81 w0 (W.drewN m) g f0 f1 f2 := h
theorem IsS81.drew {w0 W : World} {g : Nat} {f0 : List Int} {f1 : Int} {f2 : Int} (h : IsS81 w0 W g f0 f1 f2) : IsS81 w0 W.drew g f0 f1 f2 := h
theorem IsS81.at_ {w0 W : World} {g : Nat} {f0 : List Int} {f1 : Int} {f2 : Int} {w' : World} {m : Nat} (hq : W.drewN m = w') (h : IsS81 w0 W g f0 f1 f2) : IsS81 w0 w' g f0 f1 f2 := by subst hq; exact IsS81.drewN h m
theorem IsS81.apart {w0 W : World} {g : Nat} {f0 : List Int} {f1 : Int} {f2 : Int} {α : Type} {d : Kd α} {e : Nat} {base : Nat} {ok : Nat → Prop} {v : Value} {xs : List α} (h : IsS81 w0 W g f0 f1 f2) (ho : d.R e W base ok v xs) (ht : ∀ q, q ∈ e :: d.E → q ≠ 81) : d.R e W base (fun k => ok k ∧ k ≠ g) v xs := by
 obtain ⟨A0, c0, hb, hg, hr0⟩ := h
 exact Kd.R_types ho hb ht
theorem IsS81.own_ne {w0 W : World} {g : Nat} {f0 : List Int} {f1 : Int} {f2 : Int} {α : Type} {d : Kd α} {e : Nat} {base : Nat} {ok : Nat → Prop} {v : Value} {xs : List α} (h : IsS81 w0 W g f0 f1 f2) (ho : d.R e W base ok v xs) (ht : e ≠ 81) : some g ≠ v.ownBlock := by
 obtain ⟨A0, c0, hb, hg, hr0⟩ := h
 exact Kd.R_ne ho hb ht
theorem IsS81.apartQ {w0 W : World} {g : Nat} {f0 : List Int} {f1 : Int} {f2 : Int} {α : Type} {d : Kd α} {e : Nat} {base : Nat} {ok : Nat → Prop} {v : Value} {xs : List α} (h : IsS81 w0 W g f0 f1 f2) (ho : d.Q e W base ok v xs) (ht : ∀ q, q ∈ e :: d.E → q ≠ 81) : d.Q e W base (fun k => ok k ∧ k ≠ g) v xs := by
 obtain ⟨A0, c0, hb, hg, hr0⟩ := h
 exact Kd.Q_types ho hb ht
theorem IsS81.own_neQ {w0 W : World} {g : Nat} {f0 : List Int} {f1 : Int} {f2 : Int} {α : Type} {d : Kd α} {e : Nat} {base : Nat} {ok : Nat → Prop} {v : Value} {xs : List α} (h : IsS81 w0 W g f0 f1 f2) (ho : d.Q e W base ok v xs) (ht : e ≠ 81) : some g ≠ v.ownBlock := by
 obtain ⟨A0, c0, hb, hg, hr0⟩ := h
 exact Kd.Q_ne ho hb ht
theorem IsS81.apartS {w0 W : World} {g : Nat} {f0 : List Int} {f1 : Int} {f2 : Int} {α : Type} {d : Kd α} {e : Nat} {base : Nat} {ok : Nat → Prop} {v : Value} {xs : List α} (h : IsS81 w0 W g f0 f1 f2) (ho : d.S e W base ok v xs) (ht : ∀ q, q ∈ e :: d.E → q ≠ 81) : d.S e W base (fun k => ok k ∧ k ≠ g) v xs := by
 obtain ⟨A0, c0, hb, hg, hr0⟩ := h
 exact Kd.S_types ho hb ht
theorem IsS81.own_neS {w0 W : World} {g : Nat} {f0 : List Int} {f1 : Int} {f2 : Int} {α : Type} {d : Kd α} {e : Nat} {base : Nat} {ok : Nat → Prop} {v : Value} {xs : List α} (h : IsS81 w0 W g f0 f1 f2) (ho : d.S e W base ok v xs) (ht : e ≠ 81) : some g ≠ v.ownBlock := by
 obtain ⟨A0, c0, hb, hg, hr0⟩ := h
 exact Kd.S_ne ho hb ht
theorem IsS81.lt {w0 W : World} {g : Nat} {f0 : List Int} {f1 : Int} {f2 : Int} (h : IsS81 w0 W g f0 f1 f2) : g < W.heap.size := by
 obtain ⟨A0, c0, hb, hg, hr0⟩ := h
 exact blk_lt hb
theorem IsS81.ge {w0 W : World} {g : Nat} {f0 : List Int} {f1 : Int} {f2 : Int} (h : IsS81 w0 W g f0 f1 f2) : w0.heap.size ≤ g := by
 obtain ⟨A0, c0, hb, hg, hr0⟩ := h
 exact hg
theorem IsS81.ne_blk {w0 W : World} {g : Nat} {f0 : List Int} {f1 : Int} {f2 : Int} {a : Nat} {cs : Array Value} {t : TypeId} {fr : Nat × Nat} (h : IsS81 w0 W g f0 f1 f2) (hb2 : W.heap[a]? = some (.cells cs t fr)) (ht : t ≠ 81) : g ≠ a := by
 obtain ⟨A0, c0, hb, hg, hr0⟩ := h
 rintro rfl
 rw [hb] at hb2
 injection hb2 with hb2
 injection hb2 with _ ht2
 exact ht ht2.symm
theorem IsS81.far {w0 W : World} {g : Nat} {f0 : List Int} {f1 : Int} {f2 : Int} {p : Addr} (h : IsS81 w0 W g f0 f1 f2) (hne : g ≠ p.block) (u : Value) : IsS81 w0 (W.setCell p u) g f0 f1 f2 := by
 obtain ⟨A0, c0, hb, hg, hr0⟩ := h
 exact ⟨A0, c0, blk_far hb hne u, hg, hr0⟩
theorem cellS81_0 {W : World} {g : Nat} {A0 : Option Addr} {c0 : Nat} {f0 : List Int} {f1 : Int} {f2 : Int} (h : W.heap[g]? = some (.cells #[.slice A0 f0.length c0, .int .i64 f1, .int .i64 f2] 81 (0, 0))) : W.cell? ⟨g, 0, none⟩ = some (.slice A0 f0.length c0) := (blk_cell h 0).trans rfl
theorem cellS81_1 {W : World} {g : Nat} {A0 : Option Addr} {c0 : Nat} {f0 : List Int} {f1 : Int} {f2 : Int} (h : W.heap[g]? = some (.cells #[.slice A0 f0.length c0, .int .i64 f1, .int .i64 f2] 81 (0, 0))) : W.cell? ⟨g, 1, none⟩ = some (.int .i64 f1) := (blk_cell h 1).trans rfl
theorem IsS81.set_1 {w0 W : World} {g : Nat} {f0 : List Int} {f1 : Int} {f2 : Int} (h : IsS81 w0 W g f0 f1 f2) (x : Int) : IsS81 w0 (W.setCell ⟨g, 1, none⟩ (.int .i64 x)) g f0 x f2 := by
 obtain ⟨A0, c0, hb, hg, hr0⟩ := h
 exact ⟨A0, c0, by simpa using blk_set hb 1 (.int .i64 x), hg, hr0⟩
theorem cellS81_2 {W : World} {g : Nat} {A0 : Option Addr} {c0 : Nat} {f0 : List Int} {f1 : Int} {f2 : Int} (h : W.heap[g]? = some (.cells #[.slice A0 f0.length c0, .int .i64 f1, .int .i64 f2] 81 (0, 0))) : W.cell? ⟨g, 2, none⟩ = some (.int .i64 f2) := (blk_cell h 2).trans rfl
theorem IsS81.set_2 {w0 W : World} {g : Nat} {f0 : List Int} {f1 : Int} {f2 : Int} (h : IsS81 w0 W g f0 f1 f2) (x : Int) : IsS81 w0 (W.setCell ⟨g, 2, none⟩ (.int .i64 x)) g f0 f1 x := by
 obtain ⟨A0, c0, hb, hg, hr0⟩ := h
 exact ⟨A0, c0, by simpa using blk_set hb 2 (.int .i64 x), hg, hr0⟩
theorem IsS81.new (w0 W : World) (A0 : Option Addr) (c0 : Nat) (f0 : List Int) (f1 : Int) (f2 : Int) (hB : Below w0.heap.size w0 W) (hr0 : Kd.C (Kd.int .u8) w0 A0 f0.length f0) : IsS81 w0 (W.alloc (.cells #[.slice A0 f0.length c0, .int .i64 f1, .int .i64 f2] 81)) W.heap.size f0 f1 f2 := ⟨A0, c0, by simpa using heap_alloc_new W _, hB.size, hr0⟩

theorem i81a0_ {P Q : Prop} (q : Q)  (h : Q → P := by intro q ; repeat (first | (with_reducible first | exact q | apply IsS81.alloc | apply IsS81.drewN | apply IsS81.drew | apply IsS81.set_1 | apply IsS81.set_2) | exact q)) : P := h q 
theorem i81a1_ {P Q A0 : Prop} (q : Q) (b0 : A0) (h : Q → A0 → P := by intro q b0; repeat (first | (with_reducible first | exact q | apply IsS81.alloc | apply IsS81.drewN | apply IsS81.drew | apply IsS81.set_1 | apply IsS81.set_2 | refine IsS81.far ?_ b0 _) | exact q)) : P := h q b0
theorem i81a2_ {P Q A0 A1 : Prop} (q : Q) (b0 : A0) (b1 : A1) (h : Q → A0 → A1 → P := by intro q b0 b1; repeat (first | (with_reducible first | exact q | apply IsS81.alloc | apply IsS81.drewN | apply IsS81.drew | apply IsS81.set_1 | apply IsS81.set_2 | refine IsS81.far ?_ b0 _ | refine IsS81.far ?_ b1 _) | exact q)) : P := h q b0 b1
theorem i81a3_ {P Q A0 A1 A2 : Prop} (q : Q) (b0 : A0) (b1 : A1) (b2 : A2) (h : Q → A0 → A1 → A2 → P := by intro q b0 b1 b2; repeat (first | (with_reducible first | exact q | apply IsS81.alloc | apply IsS81.drewN | apply IsS81.drew | apply IsS81.set_1 | apply IsS81.set_2 | refine IsS81.far ?_ b0 _ | refine IsS81.far ?_ b1 _ | refine IsS81.far ?_ b2 _) | exact q)) : P := h q b0 b1 b2
theorem i81a4_ {P Q A0 A1 A2 A3 : Prop} (q : Q) (b0 : A0) (b1 : A1) (b2 : A2) (b3 : A3) (h : Q → A0 → A1 → A2 → A3 → P := by intro q b0 b1 b2 b3; repeat (first | (with_reducible first | exact q | apply IsS81.alloc | apply IsS81.drewN | apply IsS81.drew | apply IsS81.set_1 | apply IsS81.set_2 | refine IsS81.far ?_ b0 _ | refine IsS81.far ?_ b1 _ | refine IsS81.far ?_ b2 _ | refine IsS81.far ?_ b3 _) | exact q)) : P := h q b0 b1 b2 b3
theorem i81a5_ {P Q A0 A1 A2 A3 A4 : Prop} (q : Q) (b0 : A0) (b1 : A1) (b2 : A2) (b3 : A3) (b4 : A4) (h : Q → A0 → A1 → A2 → A3 → A4 → P := by intro q b0 b1 b2 b3 b4; repeat (first | (with_reducible first | exact q | apply IsS81.alloc | apply IsS81.drewN | apply IsS81.drew | apply IsS81.set_1 | apply IsS81.set_2 | refine IsS81.far ?_ b0 _ | refine IsS81.far ?_ b1 _ | refine IsS81.far ?_ b2 _ | refine IsS81.far ?_ b3 _ | refine IsS81.far ?_ b4 _) | exact q)) : P := h q b0 b1 b2 b3 b4
theorem i81a6_ {P Q A0 A1 A2 A3 A4 A5 : Prop} (q : Q) (b0 : A0) (b1 : A1) (b2 : A2) (b3 : A3) (b4 : A4) (b5 : A5) (h : Q → A0 → A1 → A2 → A3 → A4 → A5 → P := by intro q b0 b1 b2 b3 b4 b5; repeat (first | (with_reducible first | exact q | apply IsS81.alloc | apply IsS81.drewN | apply IsS81.drew | apply IsS81.set_1 | apply IsS81.set_2 | refine IsS81.far ?_ b0 _ | refine IsS81.far ?_ b1 _ | refine IsS81.far ?_ b2 _ | refine IsS81.far ?_ b3 _ | refine IsS81.far ?_ b4 _ | refine IsS81.far ?_ b5 _) | exact q)) : P := h q b0 b1 b2 b3 b4 b5
/-! ### spec_l1Byte: function 92 -/
def spec_l1Byte.f (s0_0 : List Int) (s0_1 : Int) (s0_2 : Int) : Option (Int × Int × Int) := if s0_1 < (s0_0.length : Int) then (if 0 ≤ s0_1 then (some (Go.bits .and .i64 (wrap64 ((Go.bits .and .i64 (Go.bits .xor .i64 ((wrap64 ((wrap64 (s0_2 * 6364136223846793005)) + 1442695040888963407)) / 8589934592) ((wrap64 ((wrap64 (s0_2 * 6364136223846793005)) + 1442695040888963407)) / 35184372088832)) 255) + (wrap64 (rd s0_0 s0_1)))) 255, wrap64 (s0_1 + 1), wrap64 ((wrap64 (s0_2 * 6364136223846793005)) + 1442695040888963407))) else (none)) else (some (Go.bits .and .i64 (Go.bits .xor .i64 ((wrap64 ((wrap64 (s0_2 * 6364136223846793005)) + 1442695040888963407)) / 8589934592) ((wrap64 ((wrap64 (s0_2 * 6364136223846793005)) + 1442695040888963407)) / 35184372088832)) 255, s0_1, wrap64 ((wrap64 (s0_2 * 6364136223846793005)) + 1442695040888963407)))
set_option maxHeartbeats 8000000 in
set_option maxRecDepth 100000 in
theorem spec_l1Byte.calls (g : Nat) (s0_0 : List Int) (s0_1 : Int) (s0_2 : Int) (r1 : Int) (r2 : Int) (r3 : Int) (w0 w : World) (hI : IsS81 w0 w g s0_0 s0_1 s0_2) (hB : Below w0.heap.size w0 w) (h : spec_l1Byte.f s0_0 s0_1 s0_2 = some (r1, r2, r3)) :
  Calls Try.prog 92 #[.pointer (some ⟨g, 0, none⟩)] w fun e w' => e = .returned (.int .i64 r1) ∧ IsS81 w0 w' g s0_0 r2 r3 ∧ Below w0.heap.size w0 w' ∧ KeepBut w w' g none := by
 have HI0 := Aside0.mk hI
 have HK := Aside0.mk (KeepBut.refl w g none)
 have HL := Aside0.mk hB.size
 clear hI
 have HW0 := Aside0.mk hB.size
 have HB := Aside0.mk hB
 clear hB
 have H : (if s0_1 < (s0_0.length : Int) then (if 0 ≤ s0_1 then (some (Go.bits .and .i64 (wrap64 ((Go.bits .and .i64 (Go.bits .xor .i64 ((wrap64 ((wrap64 (s0_2 * 6364136223846793005)) + 1442695040888963407)) / 8589934592) ((wrap64 ((wrap64 (s0_2 * 6364136223846793005)) + 1442695040888963407)) / 35184372088832)) 255) + (wrap64 (rd s0_0 s0_1)))) 255, wrap64 (s0_1 + 1), wrap64 ((wrap64 (s0_2 * 6364136223846793005)) + 1442695040888963407))) else (none)) else (some (Go.bits .and .i64 (Go.bits .xor .i64 ((wrap64 ((wrap64 (s0_2 * 6364136223846793005)) + 1442695040888963407)) / 8589934592) ((wrap64 ((wrap64 (s0_2 * 6364136223846793005)) + 1442695040888963407)) / 35184372088832)) 255, s0_1, wrap64 ((wrap64 (s0_2 * 6364136223846793005)) + 1442695040888963407)))) = some (r1, r2, r3) := h
 clear h
 by_cases c2 : s0_1 < (s0_0.length : Int)
 ·rw [if_pos c2] at H
  have c2b0 : decide (s0_1 < (s0_0.length : Int)) = true := decide_eq_true c2
  clear c2
  by_cases c3 : 0 ≤ s0_1
  ·rw [if_pos c3] at H
   have c3b0 : decide (0 ≤ s0_1) = true := decide_eq_true c3
   clear c3
   simp only [Option.some.injEq, Prod.mk.injEq] at H
   obtain ⟨rfl, rfl, rfl⟩ := H
   obtain ⟨ASz4_0, cSz4_0, HGz4, hgz4, HSz4_0⟩ := HI0.out
   have hcz4_0 := cellS81_0 HGz4
   have hcz4_1 := cellS81_1 HGz4
   have hcz4_2 := cellS81_2 HGz4
   have hfz4_1 := blk_frozen HGz4 1
   have hfz4_2 := blk_frozen HGz4 2
   clear HGz4 hgz4
   have p173 : 0 ≤ (s0_1 : Int) := de_
   have q173 : s0_1 < (s0_0.length : Int) := de_
   obtain ⟨ad173, e173, hx173_0⟩ := Kd.at_int HSz4_0 s0_1 p173 q173
   cases e173
   have hn173_0 : ad173.block ≠ g := Nat.ne_of_lt (Nat.lt_of_lt_of_le (by have := World.block_lt_of_cell? _ _ hx173_0; first | rwa [add_block] at this | exact this) (IsS81.ge HI0.out))
   replace hx173_0 := pw_cell_below HB.out hx173_0
   replace hx173_0 := (cell_far (p := ⟨g, 2, none⟩) (by first | (rw [add_block]; exact hn173_0) | (show (Addr.add _ _).block ≠ _; rw [add_block]; exact hn173_0) | exact hn173_0) (.int .i64 (wrap64 ((wrap64 (s0_2 * 6364136223846793005)) + 1442695040888963407)))).trans hx173_0
   (try have hy173_0 := fun (n_ : Nat) => (show (((w.drewN n_).setCell ⟨g, 2, none⟩ (.int .i64 (wrap64 ((wrap64 (s0_2 * 6364136223846793005)) + 1442695040888963407))))).cell? _ = some _ from hx173_0))
   clear hn173_0
   replace p173 := eq_true p173
   replace q173 := eq_true q173
   go_enter Try.func92, Try.ntmps92
   go_wp2
   repeat (go_quiet (fail); try go_wp2)
   go_ret
   exact ⟨er_, i81a0_ HI0.out, B1_ HB.out (IsS81.ge HI0.out), G0_ HK.out⟩
  ·rw [if_neg c3] at H
   exact absurd H (by simp)
 ·rw [if_neg c2] at H
  have c2b0 : decide (s0_1 < (s0_0.length : Int)) = false := decide_eq_false c2
  clear c2
  simp only [Option.some.injEq, Prod.mk.injEq] at H
  obtain ⟨rfl, rfl, rfl⟩ := H
  obtain ⟨ASz5_0, cSz5_0, HGz5, hgz5, HSz5_0⟩ := HI0.out
  have hcz5_0 := cellS81_0 HGz5
  have hcz5_1 := cellS81_1 HGz5
  have hcz5_2 := cellS81_2 HGz5
  have hfz5_1 := blk_frozen HGz5 1
  have hfz5_2 := blk_frozen HGz5 2
  clear HGz5 hgz5
  go_enter Try.func92, Try.ntmps92
  go_wp2
  repeat (go_quiet (fail); try go_wp2)
  go_ret
  exact ⟨er_, i81a0_ HI0.out, B1_ HB.out (IsS81.ge HI0.out), G0_ HK.out⟩

/-! ### spec_l1Below: function 74 -/
def spec_l1Below.f (s0_0 : List Int) (s0_1 : Int) (s0_2 : Int) (a1 : Int) : Option (Int × Int × Int) := if a1 ≤ 0 then (some (0, s0_1, s0_2)) else (if a1 ≤ 256 then ((spec_l1Byte.f s0_0 s0_1 s0_2).bind fun bt174 => (if a1 = 0 then (none) else (some (Int.tmod bt174.1 a1, bt174.2.1, bt174.2.2)))) else ((spec_l1Byte.f s0_0 s0_1 s0_2).bind fun bt177 => ((spec_l1Byte.f s0_0 bt177.2.1 bt177.2.2).bind fun bt180 => ((spec_l1Byte.f s0_0 bt180.2.1 bt180.2.2).bind fun bt183 => ((spec_l1Byte.f s0_0 bt183.2.1 bt183.2.2).bind fun bt186 => (if a1 = 0 then (none) else (some (Int.tmod (wrap64 ((wrap64 ((wrap64 ((wrap64 (bt177.1 * 16777216)) + (wrap64 (bt180.1 * 65536)))) + (wrap64 (bt183.1 * 256)))) + bt186.1)) a1, bt186.2.1, bt186.2.2))))))))
set_option maxHeartbeats 8000000 in
set_option maxRecDepth 100000 in
theorem spec_l1Below.calls (g : Nat) (s0_0 : List Int) (s0_1 : Int) (s0_2 : Int) (a1 : Int) (r1 : Int) (r2 : Int) (r3 : Int) (w0 w : World) (hI : IsS81 w0 w g s0_0 s0_1 s0_2) (hB : Below w0.heap.size w0 w) (h : spec_l1Below.f s0_0 s0_1 s0_2 a1 = some (r1, r2, r3)) :
  Calls Try.prog 74 #[.pointer (some ⟨g, 0, none⟩), .int .i64 a1] w fun e w' => e = .returned (.int .i64 r1) ∧ IsS81 w0 w' g s0_0 r2 r3 ∧ Below w0.heap.size w0 w' ∧ KeepBut w w' g none := by
 have HI0 := Aside0.mk hI
 have HK := Aside0.mk (KeepBut.refl w g none)
 have HL := Aside0.mk hB.size
 clear hI
 have HW0 := Aside0.mk hB.size
 have HB := Aside0.mk hB
 clear hB
 have H : (if a1 ≤ 0 then (some (0, s0_1, s0_2)) else (if a1 ≤ 256 then ((spec_l1Byte.f s0_0 s0_1 s0_2).bind fun bt174 => (if a1 = 0 then (none) else (some (Int.tmod bt174.1 a1, bt174.2.1, bt174.2.2)))) else ((spec_l1Byte.f s0_0 s0_1 s0_2).bind fun bt177 => ((spec_l1Byte.f s0_0 bt177.2.1 bt177.2.2).bind fun bt180 => ((spec_l1Byte.f s0_0 bt180.2.1 bt180.2.2).bind fun bt183 => ((spec_l1Byte.f s0_0 bt183.2.1 bt183.2.2).bind fun bt186 => (if a1 = 0 then (none) else (some (Int.tmod (wrap64 ((wrap64 ((wrap64 ((wrap64 (bt177.1 * 16777216)) + (wrap64 (bt180.1 * 65536)))) + (wrap64 (bt183.1 * 256)))) + bt186.1)) a1, bt186.2.1, bt186.2.2))))))))) = some (r1, r2, r3) := h
 clear h
 by_cases c3 : a1 ≤ 0
 ·rw [if_pos c3] at H
  have c3b0 : decide (a1 ≤ 0) = true := decide_eq_true c3
  clear c3
  simp only [Option.some.injEq, Prod.mk.injEq] at H
  obtain ⟨rfl, rfl, rfl⟩ := H
  go_enter Try.func74, Try.ntmps74
  go_wp2
  go_ret
  exact ⟨er_, i81a0_ HI0.out, B1_ HB.out (IsS81.ge HI0.out), G0_ HK.out⟩
 ·rw [if_neg c3] at H
  have c3b0 : decide (a1 ≤ 0) = false := decide_eq_false c3
  clear c3
  by_cases c4 : a1 ≤ 256
  ·rw [if_pos c4] at H
   have c4b0 : decide (a1 ≤ 256) = true := decide_eq_true c4
   clear c4
   replace H := Option.bind_eq_some_iff.mp H
   obtain ⟨⟨t174, t175, t176⟩, A50, H⟩ := H
   replace H : (if a1 = 0 then (none) else (some (Int.tmod t174 a1, t175, t176))) = some (r1, r2, r3) := H
   have A5 := Aside0.mk A50
   clear A50
   by_cases c6 : a1 = 0
   ·rw [if_pos c6] at H
    exact absurd H (by simp)
   ·rw [if_neg c6] at H
    have c6b0 : (a1 == 0) = false := beq_eq_false_iff_ne.mpr c6
    have c6b1 : (a1 != 0) = true := bne_iff_ne.mpr c6
    simp only [Option.some.injEq, Prod.mk.injEq] at H
    obtain ⟨rfl, rfl, rfl⟩ := H
    go_enter Try.func74, Try.ntmps74
    go_wp2_with (first | ((with_reducible refine gate_callee (f := 92) rfl ?_); refine goesL_ (some 14) rfl rfl Try.func92 (by kernel_rfl) rfl #[.pointer (some ⟨g, 0, none⟩)] rfl ma_ ?_; (with_reducible refine (spec_l1Byte.calls g s0_0 s0_1 s0_2 t174 t175 t176 w0 _ ?side1 ?side2 A5.out).mono ?_); (case side1 => repeat (first | (with_reducible first | exact HI0.out | apply IsS81.alloc | apply IsS81.drewN | apply IsS81.drew | apply IsS81.set_1 | apply IsS81.set_2) | exact HI0.out)); (case side2 => repeat (first | (with_reducible first | exact HB.out | apply below_alloc | apply pw_below_drewN | apply below_drew1 | refine below_set ?_ (IsS81.ge HI0.out)) | exact HB.out)); rintro e w7 ⟨rfl, hi, hb, hk⟩; refine ⟨_, rfl, ?_⟩; replace HK := Aside0.mk (KeepBut.trans (G0_ HK.out) hk (.inl rfl)); replace HB := Aside0.mk (hb); replace HI0 := Aside0.mk (hi); (try clear hb); (try clear hb2); (try clear hk); (try clear hi)))
    go_ret
    exact ⟨er_, i81a0_ HI0.out, B1_ HB.out (IsS81.ge HI0.out), G0_ HK.out⟩
  ·rw [if_neg c4] at H
   have c4b0 : decide (a1 ≤ 256) = false := decide_eq_false c4
   clear c4
   replace H := Option.bind_eq_some_iff.mp H
   obtain ⟨⟨t177, t178, t179⟩, A80, H⟩ := H
   replace H : ((spec_l1Byte.f s0_0 t178 t179).bind fun bt180 => ((spec_l1Byte.f s0_0 bt180.2.1 bt180.2.2).bind fun bt183 => ((spec_l1Byte.f s0_0 bt183.2.1 bt183.2.2).bind fun bt186 => (if a1 = 0 then (none) else (some (Int.tmod (wrap64 ((wrap64 ((wrap64 ((wrap64 (t177 * 16777216)) + (wrap64 (bt180.1 * 65536)))) + (wrap64 (bt183.1 * 256)))) + bt186.1)) a1, bt186.2.1, bt186.2.2)))))) = some (r1, r2, r3) := H
   have A8 := Aside0.mk A80
   clear A80
   replace H := Option.bind_eq_some_iff.mp H
   obtain ⟨⟨t180, t181, t182⟩, A90, H⟩ := H
   replace H : ((spec_l1Byte.f s0_0 t181 t182).bind fun bt183 => ((spec_l1Byte.f s0_0 bt183.2.1 bt183.2.2).bind fun bt186 => (if a1 = 0 then (none) else (some (Int.tmod (wrap64 ((wrap64 ((wrap64 ((wrap64 (t177 * 16777216)) + (wrap64 (t180 * 65536)))) + (wrap64 (bt183.1 * 256)))) + bt186.1)) a1, bt186.2.1, bt186.2.2))))) = some (r1, r2, r3) := H
   have A9 := Aside0.mk A90
   clear A90
   replace H := Option.bind_eq_some_iff.mp H
   obtain ⟨⟨t183, t184, t185⟩, A100, H⟩ := H
   replace H : ((spec_l1Byte.f s0_0 t184 t185).bind fun bt186 => (if a1 = 0 then (none) else (some (Int.tmod (wrap64 ((wrap64 ((wrap64 ((wrap64 (t177 * 16777216)) + (wrap64 (t180 * 65536)))) + (wrap64 (t183 * 256)))) + bt186.1)) a1, bt186.2.1, bt186.2.2)))) = some (r1, r2, r3) := H
   have A10 := Aside0.mk A100
   clear A100
   replace H := Option.bind_eq_some_iff.mp H
   obtain ⟨⟨t186, t187, t188⟩, A110, H⟩ := H
   replace H : (if a1 = 0 then (none) else (some (Int.tmod (wrap64 ((wrap64 ((wrap64 ((wrap64 (t177 * 16777216)) + (wrap64 (t180 * 65536)))) + (wrap64 (t183 * 256)))) + t186)) a1, t187, t188))) = some (r1, r2, r3) := H
   have A11 := Aside0.mk A110
   clear A110
   by_cases c12 : a1 = 0
   ·rw [if_pos c12] at H
    exact absurd H (by simp)
   ·rw [if_neg c12] at H
    have c12b0 : (a1 == 0) = false := beq_eq_false_iff_ne.mpr c12
    have c12b1 : (a1 != 0) = true := bne_iff_ne.mpr c12
    simp only [Option.some.injEq, Prod.mk.injEq] at H
    obtain ⟨rfl, rfl, rfl⟩ := H
    go_enter Try.func74, Try.ntmps74
    go_wp2_with (first | ((with_reducible refine gate_callee (f := 92) rfl ?_); refine goesL_ (some 18) rfl rfl Try.func92 (by kernel_rfl) rfl #[.pointer (some ⟨g, 0, none⟩)] rfl ma_ ?_; (with_reducible refine (spec_l1Byte.calls g s0_0 s0_1 s0_2 t177 t178 t179 w0 _ ?side1 ?side2 A8.out).mono ?_); (case side1 => repeat (first | (with_reducible first | exact HI0.out | apply IsS81.alloc | apply IsS81.drewN | apply IsS81.drew | apply IsS81.set_1 | apply IsS81.set_2) | exact HI0.out)); (case side2 => repeat (first | (with_reducible first | exact HB.out | apply below_alloc | apply pw_below_drewN | apply below_drew1 | refine below_set ?_ (IsS81.ge HI0.out)) | exact HB.out)); rintro e w13 ⟨rfl, hi, hb, hk⟩; refine ⟨_, rfl, ?_⟩; replace HK := Aside0.mk (KeepBut.trans (G0_ HK.out) hk (.inl rfl)); replace HB := Aside0.mk (hb); replace HI0 := Aside0.mk (hi); (try clear hb); (try clear hb2); (try clear hk); (try clear hi)) | ((with_reducible refine gate_callee (f := 92) rfl ?_); refine goesL_ (some 20) rfl rfl Try.func92 (by kernel_rfl) rfl #[.pointer (some ⟨g, 0, none⟩)] rfl ma_ ?_; (with_reducible refine (spec_l1Byte.calls g s0_0 t178 t179 t180 t181 t182 w0 _ ?side1 ?side2 A9.out).mono ?_); (case side1 => repeat (first | (with_reducible first | exact HI0.out | apply IsS81.alloc | apply IsS81.drewN | apply IsS81.drew | apply IsS81.set_1 | apply IsS81.set_2) | exact HI0.out)); (case side2 => repeat (first | (with_reducible first | exact HB.out | apply below_alloc | apply pw_below_drewN | apply below_drew1 | refine below_set ?_ (IsS81.ge HI0.out)) | exact HB.out)); rintro e w14 ⟨rfl, hi, hb, hk⟩; refine ⟨_, rfl, ?_⟩; replace HK := Aside0.mk (KeepBut.trans (G0_ HK.out) hk (.inl rfl)); replace HB := Aside0.mk (hb); replace HI0 := Aside0.mk (hi); (try clear hb); (try clear hb2); (try clear hk); (try clear hi)) | ((with_reducible refine gate_callee (f := 92) rfl ?_); refine goesL_ (some 22) rfl rfl Try.func92 (by kernel_rfl) rfl #[.pointer (some ⟨g, 0, none⟩)] rfl ma_ ?_; (with_reducible refine (spec_l1Byte.calls g s0_0 t181 t182 t183 t184 t185 w0 _ ?side1 ?side2 A10.out).mono ?_); (case side1 => repeat (first | (with_reducible first | exact HI0.out | apply IsS81.alloc | apply IsS81.drewN | apply IsS81.drew | apply IsS81.set_1 | apply IsS81.set_2) | exact HI0.out)); (case side2 => repeat (first | (with_reducible first | exact HB.out | apply below_alloc | apply pw_below_drewN | apply below_drew1 | refine below_set ?_ (IsS81.ge HI0.out)) | exact HB.out)); rintro e w15 ⟨rfl, hi, hb, hk⟩; refine ⟨_, rfl, ?_⟩; replace HK := Aside0.mk (KeepBut.trans (G0_ HK.out) hk (.inl rfl)); replace HB := Aside0.mk (hb); replace HI0 := Aside0.mk (hi); (try clear hb); (try clear hb2); (try clear hk); (try clear hi)) | ((with_reducible refine gate_callee (f := 92) rfl ?_); refine goesL_ (some 24) rfl rfl Try.func92 (by kernel_rfl) rfl #[.pointer (some ⟨g, 0, none⟩)] rfl ma_ ?_; (with_reducible refine (spec_l1Byte.calls g s0_0 t184 t185 t186 t187 t188 w0 _ ?side1 ?side2 A11.out).mono ?_); (case side1 => repeat (first | (with_reducible first | exact HI0.out | apply IsS81.alloc | apply IsS81.drewN | apply IsS81.drew | apply IsS81.set_1 | apply IsS81.set_2) | exact HI0.out)); (case side2 => repeat (first | (with_reducible first | exact HB.out | apply below_alloc | apply pw_below_drewN | apply below_drew1 | refine below_set ?_ (IsS81.ge HI0.out)) | exact HB.out)); rintro e w16 ⟨rfl, hi, hb, hk⟩; refine ⟨_, rfl, ?_⟩; replace HK := Aside0.mk (KeepBut.trans (G0_ HK.out) hk (.inl rfl)); replace HB := Aside0.mk (hb); replace HI0 := Aside0.mk (hi); (try clear hb); (try clear hb2); (try clear hk); (try clear hi)))
    go_ret
    exact ⟨er_, i81a0_ HI0.out, B1_ HB.out (IsS81.ge HI0.out), G0_ HK.out⟩

/-! ### spec_l1Pick: function 58 -/
def spec_l1Pick.f (s0_0 : List Int) (s0_1 : Int) (s0_2 : Int) (l1 : List ByteArray) : Option (ByteArray × Int × Int) := (spec_l1Below.f s0_0 s0_1 s0_2 (l1.length : Int)).bind fun bt189 => (if 0 ≤ bt189.1 then (if bt189.1 < (l1.length : Int) then (some (rdOf ByteArray.empty l1 bt189.1, bt189.2.1, bt189.2.2)) else (none)) else (none))
set_option maxHeartbeats 8000000 in
set_option maxRecDepth 100000 in
theorem spec_l1Pick.calls (g : Nat) (s0_0 : List Int) (s0_1 : Int) (s0_2 : Int) (A1 : Option Addr) (c1 : Nat) (l1 : List ByteArray) (r1 : ByteArray) (r2 : Int) (r3 : Int) (w0 w : World) (hI : IsS81 w0 w g s0_0 s0_1 s0_2) (hB : Below w0.heap.size w0 w) (hr1 : Kd.C Kd.string w A1 l1.length l1) (hc1 : l1.length ≤ c1) (hf1 : ∀ ad, A1 = some ad → 0 < l1.length → ad.block ≠ g) (h : spec_l1Pick.f s0_0 s0_1 s0_2 l1 = some (r1, r2, r3)) :
  Calls Try.prog 58 #[.pointer (some ⟨g, 0, none⟩), .slice A1 l1.length c1] w fun e w' => e = .returned (.string r1) ∧ IsS81 w0 w' g s0_0 r2 r3 ∧ Below w0.heap.size w0 w' ∧ KeepBut w w' g none := by
 have HR1 := Aside0.mk hr1
 have HC1 := Aside0.mk hc1
 clear hr1 hc1
 have HI0 := Aside0.mk hI
 have HK := Aside0.mk (KeepBut.refl w g none)
 have HL := Aside0.mk hB.size
 clear hI
 have HW0 := Aside0.mk hB.size
 have HB := Aside0.mk hB
 clear hB
 have H : ((spec_l1Below.f s0_0 s0_1 s0_2 (l1.length : Int)).bind fun bt189 => (if 0 ≤ bt189.1 then (if bt189.1 < (l1.length : Int) then (some (rdOf ByteArray.empty l1 bt189.1, bt189.2.1, bt189.2.2)) else (none)) else (none))) = some (r1, r2, r3) := h
 clear h
 replace H := Option.bind_eq_some_iff.mp H
 obtain ⟨⟨t189, t190, t191⟩, A30, H⟩ := H
 replace H : (if 0 ≤ t189 then (if t189 < (l1.length : Int) then (some (rdOf ByteArray.empty l1 t189, t190, t191)) else (none)) else (none)) = some (r1, r2, r3) := H
 have A3 := Aside0.mk A30
 clear A30
 by_cases c4 : 0 ≤ t189
 ·rw [if_pos c4] at H
  have c4b0 : decide (0 ≤ t189) = true := decide_eq_true c4
  clear c4
  by_cases c5 : t189 < (l1.length : Int)
  ·rw [if_pos c5] at H
   have c5b0 : decide (t189 < (l1.length : Int)) = true := decide_eq_true c5
   clear c5
   simp only [Option.some.injEq, Prod.mk.injEq] at H
   obtain ⟨rfl, rfl, rfl⟩ := H
   go_enter Try.func58, Try.ntmps58
   go_wp2_with (first | ((with_reducible refine gate_callee (f := 74) rfl ?_); refine goesL_ (some 9) rfl rfl Try.func74 (by kernel_rfl) rfl #[.pointer (some ⟨g, 0, none⟩), .int .i64 (l1.length : Int)] rfl ma_ ?_; (with_reducible refine (spec_l1Below.calls g s0_0 s0_1 s0_2 (l1.length : Int) t189 t190 t191 w0 _ ?side1 ?side2 A3.out).mono ?_); (case side1 => repeat (first | (with_reducible first | exact HI0.out | apply IsS81.alloc | apply IsS81.drewN | apply IsS81.drew | apply IsS81.set_1 | apply IsS81.set_2) | exact HI0.out)); (case side2 => repeat (first | (with_reducible first | exact HB.out | apply below_alloc | apply pw_below_drewN | apply below_drew1 | refine below_set ?_ (IsS81.ge HI0.out)) | exact HB.out)); rintro e w6 ⟨rfl, hi, hb, hk⟩; refine ⟨_, rfl, ?_⟩; replace HK := Aside0.mk (KeepBut.trans (G0_ HK.out) hk (.inl rfl)); replace HB := Aside0.mk (hb); replace HI0 := Aside0.mk (hi); (try clear hb); (try clear hb2); (try clear hk); (try clear hi); have p192 : 0 ≤ (t189 : Int) := de_; have q192 : t189 < (l1.length : Int) := de_; obtain ⟨ad192, e192, hx192_0⟩ := Kd.at_string HR1.out t189 p192 q192; cases e192; replace hx192_0 := keep_cell HK.out hx192_0 (by first | (rw [add_block]; exact hf1 _ rfl (by omega)) | exact hf1 _ rfl (by omega) | exact hf1 ad192 rfl (by omega)); replace p192 := eq_true p192; replace q192 := eq_true q192))
   go_ret
   exact ⟨er_, i81a0_ HI0.out, B1_ HB.out (IsS81.ge HI0.out), G0_ HK.out⟩
  ·rw [if_neg c5] at H
   exact absurd H (by simp)
 ·rw [if_neg c4] at H
  exact absurd H (by simp)

end Go.Proofs.Ytingaflikkeefaa.XB
