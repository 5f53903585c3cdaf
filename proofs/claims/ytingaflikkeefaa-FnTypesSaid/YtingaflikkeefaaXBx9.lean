-- Written by myprint.py, a program of this session, which runs the kit's printer with changes of its own. Lean checks it.
import Derived.Test.YtingaflikkeefaaXBx0
import Derived.Test.YtingaflikkeefaaXBx2
import Derived.Test.YtingaflikkeefaaXBx6
import Derived.Test.YtingaflikkeefaaSq
namespace Go.Proofs.Ytingaflikkeefaa.XB
open Go.RowKit Go.Proofs.YtingaflikkeefaaW.PrintWords Go.Proofs.YtingaflikkeefaaW.PrintLast Go.Proofs.YtingaflikkeefaaW.PrintMore Go.Proofs.Ytingaflikkeefaa.Sq
attribute [local go_sem] max2_int min2_int max_two min_two max_three min_three max_four min_four   -- for this text's walks alone
set_option linter.unusedVariables false
set_option linter.unusedSimpArgs false

/-! ### spec_IsUniform: function 24 -/
mutual
def spec_IsUniform.j0 : Nat → Bool → Int → List ByteArray → List (S30) → Option (Bool)
 | 0, _, _, _, _ => none
 | k + 1, x11, x163000, x163001, x163002 => if x11 = true then (some false) else (spec_IsUniform.l0 k 1 x163000 x163001 x163002)
def spec_IsUniform.l0 : Nat → Int → Int → List ByteArray → List (S30) → Option (Bool)
 | 0, _, _, _, _ => none
 | k + 1, x3, x163000, x163001, x163002 => if x3 < (x163002.length : Int) then (if 0 < (x163002.length : Int) then (if 0 ≤ x3 then ((spec_EqualType.f k ((rd_T30 x163002 0).f0) ((rd_T30 x163002 0).f1) ((rd_T30 x163002 0).f2) ((rd_T30 x163002 x3).f0) ((rd_T30 x163002 x3).f1) ((rd_T30 x163002 x3).f2)).bind fun t166 => (if t166 = true then (spec_IsUniform.l0 k (wrap64 (x3 + 1)) x163000 x163001 x163002) else (some false))) else (none)) else (none)) else (some true)
end
def spec_IsUniform.f (k : Nat) (a0_0 : Int) (l0_1 : List ByteArray) (l0_2 : List (S30)) : Option (Bool) := (spec_IsValidType.f k a0_0 l0_1 l0_2).bind fun t163 => (if t163 = true then (spec_IsUniform.j0 k (a0_0 != 3) a0_0 l0_1 l0_2) else (spec_IsUniform.j0 k true a0_0 l0_1 l0_2))
theorem spec_IsUniform.mono_l : ∀ k, (∀ y0 y1 y2 y3, LeO (spec_IsUniform.j0 k y0 y1 y2 y3) (spec_IsUniform.j0 (k + 1) y0 y1 y2 y3)) ∧ (∀ y0 y1 y2 y3, LeO (spec_IsUniform.l0 k y0 y1 y2 y3) (spec_IsUniform.l0 (k + 1) y0 y1 y2 y3))
 | 0 => ⟨fun _ _ _ _ r h => by simp [spec_IsUniform.j0] at h, fun _ _ _ _ r h => by simp [spec_IsUniform.l0] at h⟩
 | k + 1 => by
  obtain ⟨ih0, ih1⟩ := spec_IsUniform.mono_l k
  refine ⟨?_, ?_⟩
  ·intro y0 y1 y2 y3
   unfold spec_IsUniform.j0
   repeat' first
   | (with_reducible exact ih0 _ _ _ _)
   | (with_reducible exact ih1 _ _ _ _)
   | (with_reducible exact spec_EqualType.mono _ _ _ _ _ _ _)
   | (with_reducible exact spec_IsValidType.mono _ _ _ _)
   | (with_reducible exact LeO.refl _)
   | (with_reducible exact LeO.none _)
   | (with_reducible refine LeO.ite ?_ ?_)
   | (with_reducible refine LeO.bind ?_ (fun _ => ?_))
   | exact ih0 _ _ _ _
   | exact ih1 _ _ _ _
   | exact spec_EqualType.mono _ _ _ _ _ _ _
   | exact spec_IsValidType.mono _ _ _ _
   | exact LeO.none _
   | refine LeO.ite ?_ ?_
   | refine LeO.bind ?_ (fun _ => ?_)
  ·intro y0 y1 y2 y3
   unfold spec_IsUniform.l0
   repeat' first
   | (with_reducible exact ih0 _ _ _ _)
   | (with_reducible exact ih1 _ _ _ _)
   | (with_reducible exact spec_EqualType.mono _ _ _ _ _ _ _)
   | (with_reducible exact spec_IsValidType.mono _ _ _ _)
   | (with_reducible exact LeO.refl _)
   | (with_reducible exact LeO.none _)
   | (with_reducible refine LeO.ite ?_ ?_)
   | (with_reducible refine LeO.bind ?_ (fun _ => ?_))
   | exact ih0 _ _ _ _
   | exact ih1 _ _ _ _
   | exact spec_EqualType.mono _ _ _ _ _ _ _
   | exact spec_IsValidType.mono _ _ _ _
   | exact LeO.none _
   | refine LeO.ite ?_ ?_
   | refine LeO.bind ?_ (fun _ => ?_)
theorem spec_IsUniform.mono : ∀ a0 a1 a2 k, LeO (spec_IsUniform.f k a0 a1 a2) (spec_IsUniform.f (k + 1) a0 a1 a2) := by
 intro a0 a1 a2 k
 obtain ⟨ih0, ih1⟩ := spec_IsUniform.mono_l k
 unfold spec_IsUniform.f
 repeat' first
   | (with_reducible exact ih0 _ _ _ _)
   | (with_reducible exact ih1 _ _ _ _)
   | (with_reducible exact spec_EqualType.mono _ _ _ _ _ _ _)
   | (with_reducible exact spec_IsValidType.mono _ _ _ _)
   | (with_reducible exact LeO.refl _)
   | (with_reducible exact LeO.none _)
   | (with_reducible refine LeO.ite ?_ ?_)
   | (with_reducible refine LeO.bind ?_ (fun _ => ?_))
   | exact ih0 _ _ _ _
   | exact ih1 _ _ _ _
   | exact spec_EqualType.mono _ _ _ _ _ _ _
   | exact spec_IsValidType.mono _ _ _ _
   | exact LeO.none _
   | refine LeO.ite ?_ ?_
   | refine LeO.bind ?_ (fun _ => ?_)
def spec_IsUniform.T6 : Bool × List (List Nat × List Nat) := (true, [([], []), ([0], [0]), ([1], [1]), ([2], [2]), ([], []), ([4], [4]), ([], []), ([5, 6], [5, 6]), ([7], [7]), ([3, 8], [3, 8]), ([9], [9])])
def spec_IsUniform.B6 : List Nat := [0, 1, 3, 7, 0, 16, 0, 112, 240, 511, 1023]
theorem spec_IsUniform.tab6 : rtab .any (opsOf Try.f24 6) = spec_IsUniform.T6 := by kernel_rfl
theorem spec_IsUniform.bits6 : waitsOk spec_IsUniform.T6.2 spec_IsUniform.B6 = true := by kernel_rfl
set_option maxHeartbeats 8000000 in
set_option maxRecDepth 100000 in
theorem spec_IsUniform.calls (k : Nat) (a0_0 : Int) (A0_1 : Option Addr) (c0_1 : Nat) (l0_1 : List ByteArray) (A0_2 : Option Addr) (c0_2 : Nat) (l0_2 : List (S30)) (r : Bool) (w : World) (hr0_1 : Kd.C Kd.string w A0_1 l0_1.length l0_1) (hc0_1 : l0_1.length ≤ c0_1) (hr0_2 : Kd.C k30 w A0_2 l0_2.length l0_2) (hc0_2 : l0_2.length ≤ c0_2) (h : spec_IsUniform.f k a0_0 l0_1 l0_2 = some r) :
  Calls Try.prog 24 #[.agg #[.int .i64 a0_0, .slice A0_1 l0_1.length c0_1, .slice A0_2 l0_2.length c0_2]] w fun e w' => e = .returned (.bool r) ∧ Below w.heap.size w w' := by
 have hu30 := Try.underlying30
 have HR0_1 := Aside0.mk hr0_1
 have HC0_1 := Aside0.mk hc0_1
 clear hr0_1 hc0_1
 have HR0_2 := Aside0.mk hr0_2
 have HC0_2 := Aside0.mk hc0_2
 clear hr0_2 hc0_2
 have HB := Aside0.mk (Below.refl w.heap.size w)
 have H : ((spec_IsValidType.f k a0_0 l0_1 l0_2).bind fun t163 => (if t163 = true then (spec_IsUniform.j0 k (a0_0 != 3) a0_0 l0_1 l0_2) else (spec_IsUniform.j0 k true a0_0 l0_1 l0_2))) = some r := h
 clear h
 have HC2 := Aside0.mk H
 clear H
 go_enter Try.func24, Try.ntmps24
 go_upto_region 1 with (first | ((with_reducible refine gate_dst (N := 1) rfl ?_); refine box_event ?hg (N := 1) ?hd (cs := #[.int .i64 a0_0, .slice A0_1 l0_1.length c0_1, .slice A0_2 l0_2.length c0_2]) (t := 30) ?hr ?_; (case hd => rfl); (case hg => rfl); (case hr => first | (go_simp; done) | (go_simp; rfl)); intro gb162 hg w3 hbox hb; have BK162 := Aside0.mk (hbox); have GW162 := Aside0.mk ((by rw [hg]; exact (below_size (B0_ HB.out)) : w.heap.size ≤ gb162)); have GE162 := Aside0.mk ((by rw [hg]; exact (below_size (B0_ HB.out)) : w.heap.size ≤ gb162)); replace HB := Aside0.mk (below_step (B0_ HB.out) hb); clear hb hbox hg))
 (try simp only [Act.put, List.setIfInBounds_toArray, List.set_cons_zero, List.set_cons_succ])
 go_cut [11] (fun v11 wc => ∃ (kq : Nat) (x11_1 : Bool), v11 = .bool x11_1 ∧ Aside0 (spec_IsUniform.j0 kq x11_1 a0_0 l0_1 l0_2 = some r) ∧ Aside0 (kq ≤ k) ∧ Aside0 (wc.heap[gb162]? = some (.cells #[.int .i64 a0_0, (.slice A0_1 l0_1.length c0_1), (.slice A0_2 l0_2.length c0_2)] 30 (0, 0))) ∧ Aside0 (Below w.heap.size w wc))
 case first =>
  have H := HC2.out
  clear HC2
  replace H := Option.bind_eq_some_iff.mp H
  obtain ⟨t163, A40, H⟩ := H
  replace H : (if t163 = true then (spec_IsUniform.j0 k (a0_0 != 3) a0_0 l0_1 l0_2) else (spec_IsUniform.j0 k true a0_0 l0_1 l0_2)) = some r := H
  have A4 := Aside0.mk A40
  clear A40
  by_cases c5 : t163 = true
  ·subst c5
   have H1 : (spec_IsUniform.j0 k (a0_0 != 3) a0_0 l0_1 l0_2) = some r := by rw [if_pos rfl] at H; exact H
   clear H
   have H := H1
   clear H1
   have H' := Aside0.mk H
   clear H
   obtain ⟨hcz6_0, hcz6_1, hcz6_2, hfz6_0, hfz6_1, hfz6_2⟩ := box3_ BK162.out
   go_wp2_with (first | ((with_reducible refine gate_callee (f := 22) rfl ?_); refine goesL_ (some 5) rfl rfl Try.func22 (by kernel_rfl) rfl #[.agg #[.int .i64 a0_0, .slice A0_1 l0_1.length c0_1, .slice A0_2 l0_2.length c0_2]] rfl ma_ ?_; (with_reducible refine (spec_IsValidType.calls k a0_0 _ _ l0_1 _ _ l0_2 true _ ?side1 ?side2 ?side3 ?side4 A4.out).mono ?_); (case side1 => exact C_ (Kd.C_below HR0_1.out HB.out)); (case side2 => exact HC0_1.out); (case side3 => exact C_ (Kd.C_below HR0_2.out HB.out)); (case side4 => exact HC0_2.out); rintro e w7 ⟨rfl, hb⟩; refine ⟨_, rfl, ?_⟩; replace BK162 := kb_ BK162 hb; replace HB := Aside0.mk (below_step (B1_ HB.out GE162.out) hb); (try clear hb); (try clear hb2); (try clear hk); (try clear hi); obtain ⟨hcz8_0, hcz8_1, hcz8_2, hfz8_0, hfz8_1, hfz8_2⟩ := box3_ BK162.out))
   go_meet
   case rel => exact ⟨_, ((a0_0 != 3)), q_, H', ⟨le_⟩, ⟨K_ BK162.out⟩, ⟨B1_ HB.out GE162.out⟩⟩
  ·replace c5 := Bool.eq_false_iff.mpr c5
   subst c5
   have H1 : (spec_IsUniform.j0 k true a0_0 l0_1 l0_2) = some r := by rw [if_neg (show ¬ (false = true) by decide)] at H; exact H
   clear H
   have H := H1
   clear H1
   have H' := Aside0.mk H
   clear H
   obtain ⟨hcz9_0, hcz9_1, hcz9_2, hfz9_0, hfz9_1, hfz9_2⟩ := box3_ BK162.out
   go_wp2_with (first | ((with_reducible refine gate_callee (f := 22) rfl ?_); refine goesL_ (some 5) rfl rfl Try.func22 (by kernel_rfl) rfl #[.agg #[.int .i64 a0_0, .slice A0_1 l0_1.length c0_1, .slice A0_2 l0_2.length c0_2]] rfl ma_ ?_; (with_reducible refine (spec_IsValidType.calls k a0_0 _ _ l0_1 _ _ l0_2 false _ ?side1 ?side2 ?side3 ?side4 A4.out).mono ?_); (case side1 => exact C_ (Kd.C_below HR0_1.out HB.out)); (case side2 => exact HC0_1.out); (case side3 => exact C_ (Kd.C_below HR0_2.out HB.out)); (case side4 => exact HC0_2.out); rintro e w10 ⟨rfl, hb⟩; refine ⟨_, rfl, ?_⟩; replace BK162 := kb_ BK162 hb; replace HB := Aside0.mk (below_step (B1_ HB.out GE162.out) hb); (try clear hb); (try clear hb2); (try clear hk); (try clear hi)))
   go_meet
   case rel => exact ⟨_, (true), q_, H', ⟨le_⟩, ⟨K_ BK162.out⟩, ⟨B1_ HB.out GE162.out⟩⟩
 case rest =>
  clear HC2
  obtain ⟨kq, x11_1, rfl, HA, HJ1, BK162, HB⟩ := hcut
  cases kq with
  | zero => exact absurd HA.out (by simp [spec_IsUniform.j0])
  | succ kj1 =>
   have H := HA.out
   clear HA
   simp only [spec_IsUniform.j0] at H
   by_cases c11 : x11_1 = true
   ·subst c11
    have H1 : (some false) = some r := by rw [if_pos rfl] at H; exact H
    clear H
    have H := H1
    clear H1
    obtain rfl := Option.some.inj H
    go_wp2
    go_ret
    exact ⟨er_, B1_ HB.out GE162.out⟩
   ·replace c11 := Bool.eq_false_iff.mpr c11
    subst c11
    have H1 : (spec_IsUniform.l0 kj1 1 a0_0 l0_1 l0_2) = some r := by rw [if_neg (show ¬ (false = true) by decide)] at H; exact H
    clear H
    have H := H1
    clear H1
    have H' := Aside0.mk H
    clear H
    go_wp2
    go_loopg [3] kj1 (fun kq v3 w' => ∃ (x3_2 : Int), v3 = .int .i64 x3_2 ∧ Aside0 (spec_IsUniform.l0 kq x3_2 a0_0 l0_1 l0_2 = some r) ∧ Aside0 (kq ≤ kj1) ∧ Aside0 (w'.heap[gb162]? = some (.cells #[.int .i64 a0_0, (.slice A0_1 l0_1.length c0_1), (.slice A0_2 l0_2.length c0_2)] 30 (0, 0))) ∧ Aside0 (Below w.heap.size w w'))
    case atStart => exact ⟨(1), q_, H', ⟨Nat.le_refl _⟩, ⟨K_ BK162.out⟩, ⟨B1_ HB.out GE162.out⟩⟩
    case round =>
     clear H'
     try clear c11
     obtain ⟨x3_2, rfl, HA, HK2, BK162, HB⟩ := hrel
     cases gk with
     | zero => exact absurd HA.out (by simp [spec_IsUniform.l0])
     | succ k2 =>
      have H := HA.out
      clear HA
      simp only [spec_IsUniform.l0] at H
      by_cases c12 : x3_2 < (l0_2.length : Int)
      ·rw [if_pos c12] at H
       have c12b0 : decide (x3_2 < (l0_2.length : Int)) = true := decide_eq_true c12
       clear c12
       by_cases c13 : 0 < (l0_2.length : Int)
       ·rw [if_pos c13] at H
        have c13b0 : decide (0 < (l0_2.length : Int)) = true := decide_eq_true c13
        have c13b1 : decide (0 < l0_2.length) = true := decide_eq_true (by omega)
        clear c13
        by_cases c14 : 0 ≤ x3_2
        ·rw [if_pos c14] at H
         have c14b0 : decide (0 ≤ x3_2) = true := decide_eq_true c14
         clear c14
         replace H := Option.bind_eq_some_iff.mp H
         obtain ⟨t166, A150, H⟩ := H
         replace H : (if t166 = true then (spec_IsUniform.l0 k2 (wrap64 (x3_2 + 1)) a0_0 l0_1 l0_2) else (some false)) = some r := H
         have A15 := Aside0.mk A150
         clear A150
         by_cases c16 : t166 = true
         ·subst c16
          have H1 : (spec_IsUniform.l0 k2 (wrap64 (x3_2 + 1)) a0_0 l0_1 l0_2) = some r := by rw [if_pos rfl] at H; exact H
          clear H
          have H := H1
          clear H1
          have H' := Aside0.mk H
          clear H
          obtain ⟨hcz17_0, hcz17_1, hcz17_2, hfz17_0, hfz17_1, hfz17_2⟩ := box3_ BK162.out
          try go_wp2
          replace BK162 := Aside0.mk (blk_drew BK162.out)
          replace HB := Aside0.mk (below_drew1 HB.out)
          have p164 : 0 ≤ (0 : Int) := (by omega)
          have q164 : 0 < (l0_2.length : Int) := de_
          obtain ⟨ad164, A164_1, c164_1, A164_2, c164_2, e164, hx164_0, hx164_1, hx164_2, hl164_1, hi164_1, hl164_2, hi164_2⟩ := at_T30 HR0_2.out 0 p164 q164
          have hw164_2 := hx164_2
          (try rw [show ((0 : Int)).toNat = 0 from rfl] at hw164_2)
          (try rw [show 0 * 3 = 0 from rfl] at hw164_2)
          (try rw [Addr.add_zero'] at hw164_2)
          have hw164_1 := hx164_1
          (try rw [show ((0 : Int)).toNat = 0 from rfl] at hw164_1)
          (try rw [show 0 * 3 = 0 from rfl] at hw164_1)
          (try rw [Addr.add_zero'] at hw164_1)
          have hw164_0 := hx164_0
          (try rw [show ((0 : Int)).toNat = 0 from rfl] at hw164_0)
          (try rw [show 0 * 3 = 0 from rfl] at hw164_0)
          (try rw [Addr.add_zero'] at hw164_0)
          cases e164
          have qi164 : (0 < l0_2.length) = True := eq_true (by omega)
          (try rw [show ((0 : Int)).toNat = 0 from rfl] at hx164_0)
          (try rw [show 0 * 3 = 0 from rfl] at hx164_0)
          (try rw [Addr.add_zero'] at hx164_0)
          (try rw [show ((0 : Int)).toNat = 0 from rfl] at hx164_1)
          (try rw [show 0 * 3 = 0 from rfl] at hx164_1)
          (try rw [Addr.add_zero'] at hx164_1)
          (try rw [show ((0 : Int)).toNat = 0 from rfl] at hx164_2)
          (try rw [show 0 * 3 = 0 from rfl] at hx164_2)
          (try rw [Addr.add_zero'] at hx164_2)
          replace hx164_0 := (HB.out.cell (World.block_lt_of_cell? w _ hx164_0)).trans hx164_0
          replace hx164_1 := (HB.out.cell (World.block_lt_of_cell? w _ hx164_1)).trans hx164_1
          replace hx164_2 := (HB.out.cell (World.block_lt_of_cell? w _ hx164_2)).trans hx164_2
          have HR164_1 := Aside0.mk hi164_1
          have HC164_1 := Aside0.mk hl164_1
          clear hi164_1 hl164_1
          have HR164_2 := Aside0.mk hi164_2
          have HC164_2 := Aside0.mk hl164_2
          clear hi164_2 hl164_2
          replace p164 := eq_true p164
          replace q164 := eq_true q164
          have p165 : 0 ≤ (x3_2 : Int) := de_
          have q165 : x3_2 < (l0_2.length : Int) := de_
          obtain ⟨ad165, A165_1, c165_1, A165_2, c165_2, e165, hx165_0, hx165_1, hx165_2, hl165_1, hi165_1, hl165_2, hi165_2⟩ := at_T30 HR0_2.out x3_2 p165 q165
          have hw165_2 := hx165_2
          have hw165_1 := hx165_1
          have hw165_0 := hx165_0
          obtain rfl : ad164 = ad165 := (by injection e165)
          replace hx165_0 := (HB.out.cell (World.block_lt_of_cell? w _ hx165_0)).trans hx165_0
          replace hx165_1 := (HB.out.cell (World.block_lt_of_cell? w _ hx165_1)).trans hx165_1
          replace hx165_2 := (HB.out.cell (World.block_lt_of_cell? w _ hx165_2)).trans hx165_2
          have HR165_1 := Aside0.mk hi165_1
          have HC165_1 := Aside0.mk hl165_1
          clear hi165_1 hl165_1
          have HR165_2 := Aside0.mk hi165_2
          have HC165_2 := Aside0.mk hl165_2
          clear hi165_2 hl165_2
          replace p165 := eq_true p165
          replace q165 := eq_true q165
          refine start_ (n := 11) (S := fun w' => w'.cell? ⟨gb162, 0, none⟩ = some (.int .i64 a0_0) ∧ w'.cell? ⟨gb162, 1, none⟩ = some (.slice A0_1 l0_1.length c0_1) ∧ w'.cell? ⟨gb162, 2, none⟩ = some (.slice (some ad164) l0_2.length c0_2) ∧ w'.cell? ad164 = some (.int .i64 ((rd_T30 l0_2 0).f0)) ∧ w'.cell? ⟨ad164.block, ad164.off + 1, none⟩ = some (.slice A164_1 ((rd_T30 l0_2 0).f1).length c164_1) ∧ w'.cell? ⟨ad164.block, ad164.off + 2, none⟩ = some (.slice A164_2 ((rd_T30 l0_2 0).f2).length c164_2) ∧ w'.cell? (ad164.add ((x3_2).toNat * 3)) = some (.int .i64 ((rd_T30 l0_2 x3_2).f0)) ∧ w'.cell? ⟨(ad164.add ((x3_2).toNat * 3)).block, (ad164.add ((x3_2).toNat * 3)).off + 1, none⟩ = some (.slice A165_1 ((rd_T30 l0_2 x3_2).f1).length c165_1) ∧ w'.cell? ⟨(ad164.add ((x3_2).toNat * 3)).block, (ad164.add ((x3_2).toNat * 3)).off + 2, none⟩ = some (.slice A165_2 ((rd_T30 l0_2 x3_2).f2).length c165_2)) (ds := []) #[false, false, false, false, false, false, false, false, false, false, false] (by kernel_rfl) rfl rfl ⟨(blk_cell BK162.out 0).trans rfl, (blk_cell BK162.out 1).trans rfl, (blk_cell BK162.out 2).trans rfl, ((HB.out.cell (World.block_lt_of_cell? w _ hw164_0)).trans hw164_0), ((HB.out.cell (World.block_lt_of_cell? w _ hw164_1)).trans hw164_1), ((HB.out.cell (World.block_lt_of_cell? w _ hw164_2)).trans hw164_2), ((HB.out.cell (World.block_lt_of_cell? w _ hw165_0)).trans hw165_0), ((HB.out.cell (World.block_lt_of_cell? w _ hw165_1)).trans hw165_1), ((HB.out.cell (World.block_lt_of_cell? w _ hw165_2)).trans hw165_2)⟩ (fun hHeld => ?_); refine with_tabW spec_IsUniform.tab6 spec_IsUniform.bits6 (fun HT_ HW_ => ?_)
          generalize wr.drew = w18 at BK162 HB HR164_1 HR164_2 HR165_1 HR165_2 hx164_0 hx164_1 hx164_2 hx165_0 hx165_1 hx165_2 hHeld ⊢
          refine pu_ HT_ (i := 0) (N := some 19) (mk_ 11 1) rfl rfl ?_
          refine pu_ HT_ (i := 4) (N := some 23) (mk_ 11 17) rfl rfl ?_
          refine pu_ HT_ (i := 6) (N := some 25) (mk_ 11 81) rfl rfl ?_
          refine tk_ HT_ HW_ hHeld (i := 1) (N := some 20) (mk_ 11 83) rfl rfl ?_
          refine pu_ HT_ (i := 2) (N := some 21) (mk_ 11 87) rfl rfl ?_
          refine tk_ HT_ HW_ hHeld (i := 3) (N := some 22) (mk_ 11 95) rfl rfl ?_
          refine tk_ HT_ HW_ hHeld (i := 5) (N := some 24) (mk_ 11 127) rfl rfl ?_
          refine pu_ HT_ (i := 7) (N := some 26) (mk_ 11 255) rfl rfl ?_
          refine tk_ HT_ HW_ hHeld (i := 8) (N := some 27) (mk_ 11 511) rfl rfl ?_
          refine on_ HT_ (i := 9) (N := some 28) (mk_ 11 1023) rfl rfl (fun K hK => ?_)
          refine goes_ Try.func20 (by kernel_rfl) rfl #[.agg #[.int .i64 ((rd_T30 l0_2 0).f0), .slice A164_1 ((rd_T30 l0_2 0).f1).length c164_1, .slice A164_2 ((rd_T30 l0_2 0).f2).length c164_2], .agg #[.int .i64 ((rd_T30 l0_2 x3_2).f0), .slice A165_1 ((rd_T30 l0_2 x3_2).f1).length c165_1, .slice A165_2 ((rd_T30 l0_2 x3_2).f2).length c165_2]] (by rfl) rfl rfl ma_ ?_
          with_reducible refine (spec_EqualType.calls k2 ((rd_T30 l0_2 0).f0) _ _ ((rd_T30 l0_2 0).f1) _ _ ((rd_T30 l0_2 0).f2) ((rd_T30 l0_2 x3_2).f0) _ _ ((rd_T30 l0_2 x3_2).f1) _ _ ((rd_T30 l0_2 x3_2).f2) true _ ?side1 ?side2 ?side3 ?side4 ?side5 ?side6 ?side7 ?side8 A15.out).mono ?_
          (case side1 => exact C_ (Kd.C_below HR164_1.out HB.out))
          (case side2 => exact HC164_1.out)
          (case side3 => exact C_ (Kd.C_below HR164_2.out HB.out))
          (case side4 => exact HC164_2.out)
          (case side5 => exact C_ (Kd.C_below HR165_1.out HB.out))
          (case side6 => exact HC165_1.out)
          (case side7 => exact C_ (Kd.C_below HR165_2.out HB.out))
          (case side8 => exact HC165_2.out)
          rintro e w19 ⟨rfl, hb⟩
          refine ⟨_, rfl, ?_⟩
          replace BK162 := kb_ BK162 hb
          replace HB := Aside0.mk (below_step (B1_ HB.out GE162.out) hb)
          (try clear hb)
          (try clear hb2)
          (try clear hk)
          (try clear hi)
          refine hK.out _ _ ⟨(blk_cell BK162.out 0).trans rfl, (blk_cell BK162.out 1).trans rfl, (blk_cell BK162.out 2).trans rfl, ((HB.out.cell (World.block_lt_of_cell? w _ hw164_0)).trans hw164_0), ((HB.out.cell (World.block_lt_of_cell? w _ hw164_1)).trans hw164_1), ((HB.out.cell (World.block_lt_of_cell? w _ hw164_2)).trans hw164_2), ((HB.out.cell (World.block_lt_of_cell? w _ hw165_0)).trans hw165_0), ((HB.out.cell (World.block_lt_of_cell? w _ hw165_1)).trans hw165_1), ((HB.out.cell (World.block_lt_of_cell? w _ hw165_2)).trans hw165_2)⟩ (fun hHeld => ?_)
          clear hK K
          refine nm_ (some 28) ?_
          refine pu_ HT_ (i := 10) (N := some 29) (mk_ 11 2047) rfl rfl ?_
          refine done_ (done_of HT_.out (by kernel_rfl)) ?_
          try go_wp2
          go_roundg k2
          case measure => have := HJ1.out; have := HK2.out; omega
          case rel => exact ⟨(wrap64 (x3_2 + 1)), q_, H', ⟨by have := HJ1.out; have := HK2.out; omega⟩, ⟨K_ BK162.out⟩, ⟨B1_ HB.out GE162.out⟩⟩
         ·replace c16 := Bool.eq_false_iff.mpr c16
          subst c16
          have H1 : (some false) = some r := by rw [if_neg (show ¬ (false = true) by decide)] at H; exact H
          clear H
          have H := H1
          clear H1
          obtain rfl := Option.some.inj H
          obtain ⟨hcz20_0, hcz20_1, hcz20_2, hfz20_0, hfz20_1, hfz20_2⟩ := box3_ BK162.out
          try go_wp2
          replace BK162 := Aside0.mk (blk_drew BK162.out)
          replace HB := Aside0.mk (below_drew1 HB.out)
          have p164 : 0 ≤ (0 : Int) := (by omega)
          have q164 : 0 < (l0_2.length : Int) := de_
          obtain ⟨ad164, A164_1, c164_1, A164_2, c164_2, e164, hx164_0, hx164_1, hx164_2, hl164_1, hi164_1, hl164_2, hi164_2⟩ := at_T30 HR0_2.out 0 p164 q164
          have hw164_2 := hx164_2
          (try rw [show ((0 : Int)).toNat = 0 from rfl] at hw164_2)
          (try rw [show 0 * 3 = 0 from rfl] at hw164_2)
          (try rw [Addr.add_zero'] at hw164_2)
          have hw164_1 := hx164_1
          (try rw [show ((0 : Int)).toNat = 0 from rfl] at hw164_1)
          (try rw [show 0 * 3 = 0 from rfl] at hw164_1)
          (try rw [Addr.add_zero'] at hw164_1)
          have hw164_0 := hx164_0
          (try rw [show ((0 : Int)).toNat = 0 from rfl] at hw164_0)
          (try rw [show 0 * 3 = 0 from rfl] at hw164_0)
          (try rw [Addr.add_zero'] at hw164_0)
          cases e164
          have qi164 : (0 < l0_2.length) = True := eq_true (by omega)
          (try rw [show ((0 : Int)).toNat = 0 from rfl] at hx164_0)
          (try rw [show 0 * 3 = 0 from rfl] at hx164_0)
          (try rw [Addr.add_zero'] at hx164_0)
          (try rw [show ((0 : Int)).toNat = 0 from rfl] at hx164_1)
          (try rw [show 0 * 3 = 0 from rfl] at hx164_1)
          (try rw [Addr.add_zero'] at hx164_1)
          (try rw [show ((0 : Int)).toNat = 0 from rfl] at hx164_2)
          (try rw [show 0 * 3 = 0 from rfl] at hx164_2)
          (try rw [Addr.add_zero'] at hx164_2)
          replace hx164_0 := (HB.out.cell (World.block_lt_of_cell? w _ hx164_0)).trans hx164_0
          replace hx164_1 := (HB.out.cell (World.block_lt_of_cell? w _ hx164_1)).trans hx164_1
          replace hx164_2 := (HB.out.cell (World.block_lt_of_cell? w _ hx164_2)).trans hx164_2
          have HR164_1 := Aside0.mk hi164_1
          have HC164_1 := Aside0.mk hl164_1
          clear hi164_1 hl164_1
          have HR164_2 := Aside0.mk hi164_2
          have HC164_2 := Aside0.mk hl164_2
          clear hi164_2 hl164_2
          replace p164 := eq_true p164
          replace q164 := eq_true q164
          have p165 : 0 ≤ (x3_2 : Int) := de_
          have q165 : x3_2 < (l0_2.length : Int) := de_
          obtain ⟨ad165, A165_1, c165_1, A165_2, c165_2, e165, hx165_0, hx165_1, hx165_2, hl165_1, hi165_1, hl165_2, hi165_2⟩ := at_T30 HR0_2.out x3_2 p165 q165
          have hw165_2 := hx165_2
          have hw165_1 := hx165_1
          have hw165_0 := hx165_0
          obtain rfl : ad164 = ad165 := (by injection e165)
          replace hx165_0 := (HB.out.cell (World.block_lt_of_cell? w _ hx165_0)).trans hx165_0
          replace hx165_1 := (HB.out.cell (World.block_lt_of_cell? w _ hx165_1)).trans hx165_1
          replace hx165_2 := (HB.out.cell (World.block_lt_of_cell? w _ hx165_2)).trans hx165_2
          have HR165_1 := Aside0.mk hi165_1
          have HC165_1 := Aside0.mk hl165_1
          clear hi165_1 hl165_1
          have HR165_2 := Aside0.mk hi165_2
          have HC165_2 := Aside0.mk hl165_2
          clear hi165_2 hl165_2
          replace p165 := eq_true p165
          replace q165 := eq_true q165
          refine start_ (n := 11) (S := fun w' => w'.cell? ⟨gb162, 0, none⟩ = some (.int .i64 a0_0) ∧ w'.cell? ⟨gb162, 1, none⟩ = some (.slice A0_1 l0_1.length c0_1) ∧ w'.cell? ⟨gb162, 2, none⟩ = some (.slice (some ad164) l0_2.length c0_2) ∧ w'.cell? ad164 = some (.int .i64 ((rd_T30 l0_2 0).f0)) ∧ w'.cell? ⟨ad164.block, ad164.off + 1, none⟩ = some (.slice A164_1 ((rd_T30 l0_2 0).f1).length c164_1) ∧ w'.cell? ⟨ad164.block, ad164.off + 2, none⟩ = some (.slice A164_2 ((rd_T30 l0_2 0).f2).length c164_2) ∧ w'.cell? (ad164.add ((x3_2).toNat * 3)) = some (.int .i64 ((rd_T30 l0_2 x3_2).f0)) ∧ w'.cell? ⟨(ad164.add ((x3_2).toNat * 3)).block, (ad164.add ((x3_2).toNat * 3)).off + 1, none⟩ = some (.slice A165_1 ((rd_T30 l0_2 x3_2).f1).length c165_1) ∧ w'.cell? ⟨(ad164.add ((x3_2).toNat * 3)).block, (ad164.add ((x3_2).toNat * 3)).off + 2, none⟩ = some (.slice A165_2 ((rd_T30 l0_2 x3_2).f2).length c165_2)) (ds := []) #[false, false, false, false, false, false, false, false, false, false, false] (by kernel_rfl) rfl rfl ⟨(blk_cell BK162.out 0).trans rfl, (blk_cell BK162.out 1).trans rfl, (blk_cell BK162.out 2).trans rfl, ((HB.out.cell (World.block_lt_of_cell? w _ hw164_0)).trans hw164_0), ((HB.out.cell (World.block_lt_of_cell? w _ hw164_1)).trans hw164_1), ((HB.out.cell (World.block_lt_of_cell? w _ hw164_2)).trans hw164_2), ((HB.out.cell (World.block_lt_of_cell? w _ hw165_0)).trans hw165_0), ((HB.out.cell (World.block_lt_of_cell? w _ hw165_1)).trans hw165_1), ((HB.out.cell (World.block_lt_of_cell? w _ hw165_2)).trans hw165_2)⟩ (fun hHeld => ?_); refine with_tabW spec_IsUniform.tab6 spec_IsUniform.bits6 (fun HT_ HW_ => ?_)
          generalize wr.drew = w21 at BK162 HB HR164_1 HR164_2 HR165_1 HR165_2 hx164_0 hx164_1 hx164_2 hx165_0 hx165_1 hx165_2 hHeld ⊢
          refine pu_ HT_ (i := 0) (N := some 19) (mk_ 11 1) rfl rfl ?_
          refine pu_ HT_ (i := 4) (N := some 23) (mk_ 11 17) rfl rfl ?_
          refine pu_ HT_ (i := 6) (N := some 25) (mk_ 11 81) rfl rfl ?_
          refine tk_ HT_ HW_ hHeld (i := 1) (N := some 20) (mk_ 11 83) rfl rfl ?_
          refine pu_ HT_ (i := 2) (N := some 21) (mk_ 11 87) rfl rfl ?_
          refine tk_ HT_ HW_ hHeld (i := 3) (N := some 22) (mk_ 11 95) rfl rfl ?_
          refine tk_ HT_ HW_ hHeld (i := 5) (N := some 24) (mk_ 11 127) rfl rfl ?_
          refine pu_ HT_ (i := 7) (N := some 26) (mk_ 11 255) rfl rfl ?_
          refine tk_ HT_ HW_ hHeld (i := 8) (N := some 27) (mk_ 11 511) rfl rfl ?_
          refine on_ HT_ (i := 9) (N := some 28) (mk_ 11 1023) rfl rfl (fun K hK => ?_)
          refine goes_ Try.func20 (by kernel_rfl) rfl #[.agg #[.int .i64 ((rd_T30 l0_2 0).f0), .slice A164_1 ((rd_T30 l0_2 0).f1).length c164_1, .slice A164_2 ((rd_T30 l0_2 0).f2).length c164_2], .agg #[.int .i64 ((rd_T30 l0_2 x3_2).f0), .slice A165_1 ((rd_T30 l0_2 x3_2).f1).length c165_1, .slice A165_2 ((rd_T30 l0_2 x3_2).f2).length c165_2]] (by rfl) rfl rfl ma_ ?_
          with_reducible refine (spec_EqualType.calls k2 ((rd_T30 l0_2 0).f0) _ _ ((rd_T30 l0_2 0).f1) _ _ ((rd_T30 l0_2 0).f2) ((rd_T30 l0_2 x3_2).f0) _ _ ((rd_T30 l0_2 x3_2).f1) _ _ ((rd_T30 l0_2 x3_2).f2) false _ ?side1 ?side2 ?side3 ?side4 ?side5 ?side6 ?side7 ?side8 A15.out).mono ?_
          (case side1 => exact C_ (Kd.C_below HR164_1.out HB.out))
          (case side2 => exact HC164_1.out)
          (case side3 => exact C_ (Kd.C_below HR164_2.out HB.out))
          (case side4 => exact HC164_2.out)
          (case side5 => exact C_ (Kd.C_below HR165_1.out HB.out))
          (case side6 => exact HC165_1.out)
          (case side7 => exact C_ (Kd.C_below HR165_2.out HB.out))
          (case side8 => exact HC165_2.out)
          rintro e w22 ⟨rfl, hb⟩
          refine ⟨_, rfl, ?_⟩
          replace BK162 := kb_ BK162 hb
          replace HB := Aside0.mk (below_step (B1_ HB.out GE162.out) hb)
          (try clear hb)
          (try clear hb2)
          (try clear hk)
          (try clear hi)
          refine hK.out _ _ ⟨(blk_cell BK162.out 0).trans rfl, (blk_cell BK162.out 1).trans rfl, (blk_cell BK162.out 2).trans rfl, ((HB.out.cell (World.block_lt_of_cell? w _ hw164_0)).trans hw164_0), ((HB.out.cell (World.block_lt_of_cell? w _ hw164_1)).trans hw164_1), ((HB.out.cell (World.block_lt_of_cell? w _ hw164_2)).trans hw164_2), ((HB.out.cell (World.block_lt_of_cell? w _ hw165_0)).trans hw165_0), ((HB.out.cell (World.block_lt_of_cell? w _ hw165_1)).trans hw165_1), ((HB.out.cell (World.block_lt_of_cell? w _ hw165_2)).trans hw165_2)⟩ (fun hHeld => ?_)
          clear hK K
          refine nm_ (some 28) ?_
          refine pu_ HT_ (i := 10) (N := some 29) (mk_ 11 2047) rfl rfl ?_
          refine done_ (done_of HT_.out (by kernel_rfl)) ?_
          try go_wp2
          go_ret
          exact ⟨er_, B1_ HB.out GE162.out⟩
        ·rw [if_neg c14] at H
         exact absurd H (by simp)
       ·rw [if_neg c13] at H
        exact absurd H (by simp)
      ·rw [if_neg c12] at H
       have c12b0 : decide (x3_2 < (l0_2.length : Int)) = false := decide_eq_false c12
       clear c12
       obtain rfl := Option.some.inj H
       obtain ⟨hcz23_0, hcz23_1, hcz23_2, hfz23_0, hfz23_1, hfz23_2⟩ := box3_ BK162.out
       go_wp2
       go_ret
       exact ⟨er_, B1_ HB.out GE162.out⟩

end Go.Proofs.Ytingaflikkeefaa.XB
