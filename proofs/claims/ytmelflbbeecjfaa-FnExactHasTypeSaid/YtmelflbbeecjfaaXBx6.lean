-- Written by myprint.py, a program of this session, which runs the kit's printer with changes of its own. Lean checks it.
import Derived.Test.YtmelflbbeecjfaaXBx0
import Derived.Test.YtmelflbbeecjfaaXBx4
import Derived.Test.YtmelflbbeecjfaaXBx5
import Derived.Test.YtmelflbbeecjfaaSq
namespace Go.Proofs.Ytmelflbbeecjfaa.XB
open Go.RowKit Go.Proofs.YtmelflbbeecjfaaW.PrintWords Go.Proofs.YtmelflbbeecjfaaW.PrintLast Go.Proofs.YtmelflbbeecjfaaW.PrintMore Go.Proofs.Ytmelflbbeecjfaa.Sq
attribute [local go_sem] max2_int min2_int max_two min_two max_three min_three max_four min_four   -- for this text's walks alone
set_option linter.unusedVariables false
set_option linter.unusedSimpArgs false

/-! ### spec_l5Form: function 53 -/
mutual
def spec_l5Form.l0 : Nat → Int → Int → Int → ByteArray → List ByteArray → List (S30) → Option (Bool)
 | 0, _, _, _, _, _, _ => none
 | k + 1, x3, x188000, x188001, x188002, x188003, x188004 => if x3 < (x188004.length : Int) then (if 0 ≤ x3 then ((spec_l5Form.f k ((rd_T30 x188004 x3).f0) ((rd_T30 x188004 x3).f1) ((rd_T30 x188004 x3).f2) ((rd_T30 x188004 x3).f3) ((rd_T30 x188004 x3).f4)).bind fun t189 => (if t189 = true then (spec_l5Form.l0 k (wrap64 (x3 + 1)) x188000 x188001 x188002 x188003 x188004) else (some false))) else (none)) else ((spec_IsName.f k x188002).bind fun t190 => (if ((x188000 == 4) != t190) = true then (spec_l5Form.j1 k true x188000 x188001 x188002 x188003 x188004) else (if x188000 = 4 then (if x188000 = 3 then (spec_l5Form.j1 k false x188000 x188001 x188002 x188003 x188004) else (spec_l5Form.j1 k (decide ((x188003.length : Int) > 0)) x188000 x188001 x188002 x188003 x188004)) else (if x188002.toList = ([] : List UInt8) then (if x188000 = 3 then (spec_l5Form.j1 k false x188000 x188001 x188002 x188003 x188004) else (spec_l5Form.j1 k (decide ((x188003.length : Int) > 0)) x188000 x188001 x188002 x188003 x188004)) else (spec_l5Form.j1 k true x188000 x188001 x188002 x188003 x188004)))))
def spec_l5Form.j1 : Nat → Bool → Int → Int → ByteArray → List ByteArray → List (S30) → Option (Bool)
 | 0, _, _, _, _, _, _ => none
 | k + 1, x46, x188000, x188001, x188002, x188003, x188004 => if x46 = true then (some false) else (if x188000 = 1 then (some ((x188004.length : Int) == 0)) else (if x188000 = 2 then (if (x188004.length : Int) = 0 then ((spec_l1In.f x188001 0 1).bind fun t191 => (some t191)) else (some false)) else (if x188000 = 3 then (if x188001 = 0 then (if (x188003.length : Int) = (x188004.length : Int) then ((spec_l3Labels.f k x188003).bind fun t192 => (some t192)) else (some false)) else (some false)) else (if x188000 = 4 then (if x188001 = 0 then (some ((x188004.length : Int) == 1)) else (some false)) else (if x188000 = 5 then (some (x188001 == 0)) else (some false))))))
def spec_l5Form.f : Nat → Int → Int → ByteArray → List ByteArray → List (S30) → Option (Bool)
 | 0, _, _, _, _, _ => none
 | k + 1, a0_0, a0_1, a0_2, l0_3, l0_4 => spec_l5Form.l0 k 0 a0_0 a0_1 a0_2 l0_3 l0_4
end
theorem spec_l5Form.mono_l : ∀ k, (∀ y0 y1 y2 y3 y4, LeO (spec_l5Form.f k y0 y1 y2 y3 y4) (spec_l5Form.f (k + 1) y0 y1 y2 y3 y4)) ∧ (∀ y0 y1 y2 y3 y4 y5, LeO (spec_l5Form.l0 k y0 y1 y2 y3 y4 y5) (spec_l5Form.l0 (k + 1) y0 y1 y2 y3 y4 y5)) ∧ (∀ y0 y1 y2 y3 y4 y5, LeO (spec_l5Form.j1 k y0 y1 y2 y3 y4 y5) (spec_l5Form.j1 (k + 1) y0 y1 y2 y3 y4 y5))
 | 0 => ⟨fun _ _ _ _ _ r h => by simp [spec_l5Form.f] at h, fun _ _ _ _ _ _ r h => by simp [spec_l5Form.l0] at h, fun _ _ _ _ _ _ r h => by simp [spec_l5Form.j1] at h⟩
 | k + 1 => by
  obtain ⟨ih0, ih1, ih2⟩ := spec_l5Form.mono_l k
  refine ⟨?_, ?_, ?_⟩
  ·intro y0 y1 y2 y3 y4
   unfold spec_l5Form.f
   repeat' first
   | (with_reducible exact ih0 _ _ _ _ _)
   | (with_reducible exact ih1 _ _ _ _ _ _)
   | (with_reducible exact ih2 _ _ _ _ _ _)
   | (with_reducible exact spec_IsName.mono _ _)
   | (with_reducible exact spec_l3Labels.mono _ _)
   | (with_reducible exact LeO.refl _)
   | (with_reducible exact LeO.none _)
   | (with_reducible refine LeO.ite ?_ ?_)
   | (with_reducible refine LeO.bind ?_ (fun _ => ?_))
   | exact ih0 _ _ _ _ _
   | exact ih1 _ _ _ _ _ _
   | exact ih2 _ _ _ _ _ _
   | exact spec_IsName.mono _ _
   | exact spec_l3Labels.mono _ _
   | exact LeO.none _
   | refine LeO.ite ?_ ?_
   | refine LeO.bind ?_ (fun _ => ?_)
  ·intro y0 y1 y2 y3 y4 y5
   unfold spec_l5Form.l0
   repeat' first
   | (with_reducible exact ih0 _ _ _ _ _)
   | (with_reducible exact ih1 _ _ _ _ _ _)
   | (with_reducible exact ih2 _ _ _ _ _ _)
   | (with_reducible exact spec_IsName.mono _ _)
   | (with_reducible exact spec_l3Labels.mono _ _)
   | (with_reducible exact LeO.refl _)
   | (with_reducible exact LeO.none _)
   | (with_reducible refine LeO.ite ?_ ?_)
   | (with_reducible refine LeO.bind ?_ (fun _ => ?_))
   | exact ih0 _ _ _ _ _
   | exact ih1 _ _ _ _ _ _
   | exact ih2 _ _ _ _ _ _
   | exact spec_IsName.mono _ _
   | exact spec_l3Labels.mono _ _
   | exact LeO.none _
   | refine LeO.ite ?_ ?_
   | refine LeO.bind ?_ (fun _ => ?_)
  ·intro y0 y1 y2 y3 y4 y5
   unfold spec_l5Form.j1
   repeat' first
   | (with_reducible exact ih0 _ _ _ _ _)
   | (with_reducible exact ih1 _ _ _ _ _ _)
   | (with_reducible exact ih2 _ _ _ _ _ _)
   | (with_reducible exact spec_IsName.mono _ _)
   | (with_reducible exact spec_l3Labels.mono _ _)
   | (with_reducible exact LeO.refl _)
   | (with_reducible exact LeO.none _)
   | (with_reducible refine LeO.ite ?_ ?_)
   | (with_reducible refine LeO.bind ?_ (fun _ => ?_))
   | exact ih0 _ _ _ _ _
   | exact ih1 _ _ _ _ _ _
   | exact ih2 _ _ _ _ _ _
   | exact spec_IsName.mono _ _
   | exact spec_l3Labels.mono _ _
   | exact LeO.none _
   | refine LeO.ite ?_ ?_
   | refine LeO.bind ?_ (fun _ => ?_)
theorem spec_l5Form.mono : ∀ a0 a1 a2 a3 a4 k, LeO (spec_l5Form.f k a0 a1 a2 a3 a4) (spec_l5Form.f (k + 1) a0 a1 a2 a3 a4) := by
 intro a0 a1 a2 a3 a4 k
 obtain ⟨ih0, ih1, ih2⟩ := spec_l5Form.mono_l k
 exact ih0 a0 a1 a2 a3 a4
set_option maxHeartbeats 8000000 in
set_option maxRecDepth 100000 in
theorem spec_l5Form.calls (k : Nat) : ∀ (a0_0 : Int) (a0_1 : Int) (a0_2 : ByteArray) (A0_3 : Option Addr) (c0_3 : Nat) (l0_3 : List ByteArray) (A0_4 : Option Addr) (c0_4 : Nat) (l0_4 : List (S30)) (r : Bool) (w : World) (hr0_3 : Kd.C Kd.string w A0_3 l0_3.length l0_3) (hc0_3 : l0_3.length ≤ c0_3) (hr0_4 : Kd.C k30 w A0_4 l0_4.length l0_4) (hc0_4 : l0_4.length ≤ c0_4) (h : spec_l5Form.f k a0_0 a0_1 a0_2 l0_3 l0_4 = some r),
  Calls Try.prog 53 #[.agg #[.int .i64 a0_0, .int .i64 a0_1, .string a0_2, .slice A0_3 l0_3.length c0_3, .slice A0_4 l0_4.length c0_4]] w fun e w' => e = .returned (.bool r) ∧ Below w.heap.size w w' := by
 induction k using Nat.strongRecOn with
 | _ k ih =>
 intro a0_0 a0_1 a0_2 A0_3 c0_3 l0_3 A0_4 c0_4 l0_4 r w hr0_3 hc0_3 hr0_4 hc0_4 h
 cases k with
 | zero => exact absurd h (by simp [spec_l5Form.f])
 | succ k =>
 simp only [spec_l5Form.f] at h
 have hu30 := Try.underlying30
 have HR0_3 := Aside0.mk hr0_3
 have HC0_3 := Aside0.mk hc0_3
 clear hr0_3 hc0_3
 have HR0_4 := Aside0.mk hr0_4
 have HC0_4 := Aside0.mk hc0_4
 clear hr0_4 hc0_4
 have HB := Aside0.mk (Below.refl w.heap.size w)
 have H : (spec_l5Form.l0 k 0 a0_0 a0_1 a0_2 l0_3 l0_4) = some r := h
 clear h
 have H' := Aside0.mk H
 clear H
 go_enter Try.func53, Try.ntmps53
 go_wp2_with (first | ((with_reducible refine gate_dst (N := 1) rfl ?_); (try (refine gate_guard (by rfl) ?_; dsimp only)); refine box_event ?hg (N := 1) ?hd (cs := #[.int .i64 a0_0, .int .i64 a0_1, .string a0_2, .slice A0_3 l0_3.length c0_3, .slice A0_4 l0_4.length c0_4]) (t := 30) ?hr ?_; (case hd => rfl); (case hg => rfl); (case hr => first | (go_simp; done) | (go_simp; rfl)); intro gb187 hg w2 hbox hb; have BK187 := Aside0.mk (hbox); have GW187 := Aside0.mk ((by rw [hg]; exact (below_size (B0_ HB.out)) : w.heap.size ≤ gb187)); have GE187 := Aside0.mk ((by rw [hg]; exact (below_size (B0_ HB.out)) : w.heap.size ≤ gb187)); replace HB := Aside0.mk (below_step (B0_ HB.out) hb); clear hb hbox hg))
 go_loopg [3] k (fun kq v3 w' => ∃ (x3_1 : Int), v3 = .int .i64 x3_1 ∧ Aside0 (spec_l5Form.l0 kq x3_1 a0_0 a0_1 a0_2 l0_3 l0_4 = some r) ∧ Aside0 (kq ≤ k) ∧ Aside0 (w'.heap[gb187]? = some (.cells #[.int .i64 a0_0, .int .i64 a0_1, .string a0_2, (.slice A0_3 l0_3.length c0_3), (.slice A0_4 l0_4.length c0_4)] 30 (0, 0))) ∧ Aside0 (Below w.heap.size w w'))
 case atStart => exact ⟨(0), q_, H', ⟨Nat.le_refl _⟩, ⟨K_ BK187.out⟩, ⟨B1_ HB.out GE187.out⟩⟩
 case round =>
  clear H'
  obtain ⟨x3_1, rfl, HA, HK1, BK187, HB⟩ := hrel
  cases gk with
  | zero => exact absurd HA.out (by simp [spec_l5Form.l0])
  | succ k1 =>
   have H := HA.out
   clear HA
   simp only [spec_l5Form.l0] at H
   by_cases c3 : x3_1 < (l0_4.length : Int)
   ·rw [if_pos c3] at H
    have c3b0 : decide (x3_1 < (l0_4.length : Int)) = true := decide_eq_true c3
    clear c3
    by_cases c4 : 0 ≤ x3_1
    ·rw [if_pos c4] at H
     have c4b0 : decide (0 ≤ x3_1) = true := decide_eq_true c4
     clear c4
     replace H := Option.bind_eq_some_iff.mp H
     obtain ⟨t189, A50, H⟩ := H
     replace H : (if t189 = true then (spec_l5Form.l0 k1 (wrap64 (x3_1 + 1)) a0_0 a0_1 a0_2 l0_3 l0_4) else (some false)) = some r := H
     have A5 := Aside0.mk A50
     clear A50
     by_cases c6 : t189 = true
     ·subst c6
      have H1 : (spec_l5Form.l0 k1 (wrap64 (x3_1 + 1)) a0_0 a0_1 a0_2 l0_3 l0_4) = some r := by rw [if_pos rfl] at H; exact H
      clear H
      have H := H1
      clear H1
      have H' := Aside0.mk H
      clear H
      obtain ⟨hcz7_0, hcz7_1, hcz7_2, hcz7_3, hcz7_4, hfz7_0, hfz7_1, hfz7_2, hfz7_3, hfz7_4⟩ := box5_ BK187.out
      have p188 : 0 ≤ (x3_1 : Int) := de_
      have q188 : x3_1 < (l0_4.length : Int) := de_
      obtain ⟨ad188, A188_3, c188_3, A188_4, c188_4, e188, hx188_0, hx188_1, hx188_2, hx188_3, hx188_4, hl188_3, hi188_3, hl188_4, hi188_4⟩ := at_T30 HR0_4.out x3_1 p188 q188
      cases e188
      replace hx188_0 := (HB.out.cell (World.block_lt_of_cell? w _ hx188_0)).trans hx188_0
      replace hx188_1 := (HB.out.cell (World.block_lt_of_cell? w _ hx188_1)).trans hx188_1
      replace hx188_2 := (HB.out.cell (World.block_lt_of_cell? w _ hx188_2)).trans hx188_2
      replace hx188_3 := (HB.out.cell (World.block_lt_of_cell? w _ hx188_3)).trans hx188_3
      replace hx188_4 := (HB.out.cell (World.block_lt_of_cell? w _ hx188_4)).trans hx188_4
      have HR188_3 := Aside0.mk hi188_3
      have HC188_3 := Aside0.mk hl188_3
      clear hi188_3 hl188_3
      have HR188_4 := Aside0.mk hi188_4
      have HC188_4 := Aside0.mk hl188_4
      clear hi188_4 hl188_4
      replace p188 := eq_true p188
      replace q188 := eq_true q188
      go_wp2_with (first | ((with_reducible refine gate_callee (f := 53) rfl ?_); refine goesL_ (some 17) rfl rfl Try.func53 (by kernel_rfl) rfl #[.agg #[.int .i64 ((rd_T30 l0_4 x3_1).f0), .int .i64 ((rd_T30 l0_4 x3_1).f1), .string ((rd_T30 l0_4 x3_1).f2), .slice A188_3 ((rd_T30 l0_4 x3_1).f3).length c188_3, .slice A188_4 ((rd_T30 l0_4 x3_1).f4).length c188_4]] rfl ma_ ?_; (with_reducible refine (ih k1 (by have := HK1.out; omega) ((rd_T30 l0_4 x3_1).f0) ((rd_T30 l0_4 x3_1).f1) ((rd_T30 l0_4 x3_1).f2) _ _ ((rd_T30 l0_4 x3_1).f3) _ _ ((rd_T30 l0_4 x3_1).f4) true _ ?side1 ?side2 ?side3 ?side4 A5.out).mono ?_); (case side1 => exact C_ (Kd.C_below HR188_3.out HB.out)); (case side2 => exact HC188_3.out); (case side3 => exact C_ (Kd.C_below HR188_4.out HB.out)); (case side4 => exact HC188_4.out); rintro e w8 ⟨rfl, hb⟩; refine ⟨_, rfl, ?_⟩; replace BK187 := Aside0.mk (blk_below (K_ BK187.out) hb); replace HB := Aside0.mk (below_step (B1_ HB.out GE187.out) hb); (try clear hb); (try clear hb2); (try clear hk); (try clear hi)))
      go_roundg k1
      case measure => have := HK1.out; omega
      case rel => exact ⟨(wrap64 (x3_1 + 1)), q_, H', ⟨by have := HK1.out; omega⟩, ⟨K_ BK187.out⟩, ⟨B1_ HB.out GE187.out⟩⟩
     ·replace c6 := Bool.eq_false_iff.mpr c6
      subst c6
      have H1 : (some false) = some r := by rw [if_neg (show ¬ (false = true) by decide)] at H; exact H
      clear H
      have H := H1
      clear H1
      obtain rfl := Option.some.inj H
      obtain ⟨hcz9_0, hcz9_1, hcz9_2, hcz9_3, hcz9_4, hfz9_0, hfz9_1, hfz9_2, hfz9_3, hfz9_4⟩ := box5_ BK187.out
      have p188 : 0 ≤ (x3_1 : Int) := de_
      have q188 : x3_1 < (l0_4.length : Int) := de_
      obtain ⟨ad188, A188_3, c188_3, A188_4, c188_4, e188, hx188_0, hx188_1, hx188_2, hx188_3, hx188_4, hl188_3, hi188_3, hl188_4, hi188_4⟩ := at_T30 HR0_4.out x3_1 p188 q188
      cases e188
      replace hx188_0 := (HB.out.cell (World.block_lt_of_cell? w _ hx188_0)).trans hx188_0
      replace hx188_1 := (HB.out.cell (World.block_lt_of_cell? w _ hx188_1)).trans hx188_1
      replace hx188_2 := (HB.out.cell (World.block_lt_of_cell? w _ hx188_2)).trans hx188_2
      replace hx188_3 := (HB.out.cell (World.block_lt_of_cell? w _ hx188_3)).trans hx188_3
      replace hx188_4 := (HB.out.cell (World.block_lt_of_cell? w _ hx188_4)).trans hx188_4
      have HR188_3 := Aside0.mk hi188_3
      have HC188_3 := Aside0.mk hl188_3
      clear hi188_3 hl188_3
      have HR188_4 := Aside0.mk hi188_4
      have HC188_4 := Aside0.mk hl188_4
      clear hi188_4 hl188_4
      replace p188 := eq_true p188
      replace q188 := eq_true q188
      go_wp2_with (first | ((with_reducible refine gate_callee (f := 53) rfl ?_); refine goesL_ (some 17) rfl rfl Try.func53 (by kernel_rfl) rfl #[.agg #[.int .i64 ((rd_T30 l0_4 x3_1).f0), .int .i64 ((rd_T30 l0_4 x3_1).f1), .string ((rd_T30 l0_4 x3_1).f2), .slice A188_3 ((rd_T30 l0_4 x3_1).f3).length c188_3, .slice A188_4 ((rd_T30 l0_4 x3_1).f4).length c188_4]] rfl ma_ ?_; (with_reducible refine (ih k1 (by have := HK1.out; omega) ((rd_T30 l0_4 x3_1).f0) ((rd_T30 l0_4 x3_1).f1) ((rd_T30 l0_4 x3_1).f2) _ _ ((rd_T30 l0_4 x3_1).f3) _ _ ((rd_T30 l0_4 x3_1).f4) false _ ?side1 ?side2 ?side3 ?side4 A5.out).mono ?_); (case side1 => exact C_ (Kd.C_below HR188_3.out HB.out)); (case side2 => exact HC188_3.out); (case side3 => exact C_ (Kd.C_below HR188_4.out HB.out)); (case side4 => exact HC188_4.out); rintro e w10 ⟨rfl, hb⟩; refine ⟨_, rfl, ?_⟩; replace BK187 := Aside0.mk (blk_below (K_ BK187.out) hb); replace HB := Aside0.mk (below_step (B1_ HB.out GE187.out) hb); (try clear hb); (try clear hb2); (try clear hk); (try clear hi)))
      go_ret
      exact ⟨er_, B1_ HB.out GE187.out⟩
    ·rw [if_neg c4] at H
     exact absurd H (by simp)
   ·rw [if_neg c3] at H
    have c3b0 : decide (x3_1 < (l0_4.length : Int)) = false := decide_eq_false c3
    clear c3
    have HC11 := Aside0.mk H
    clear H
    obtain ⟨hcz12_0, hcz12_1, hcz12_2, hcz12_3, hcz12_4, hfz12_0, hfz12_1, hfz12_2, hfz12_3, hfz12_4⟩ := box5_ BK187.out
    go_upto_region 7 with (fail)
    go_cut [46] (fun v46 wc => ∃ (kq : Nat) (x46_10 : Bool), v46 = .bool x46_10 ∧ Aside0 (spec_l5Form.j1 kq x46_10 a0_0 a0_1 a0_2 l0_3 l0_4 = some r) ∧ Aside0 (kq ≤ k1) ∧ Aside0 (wc.heap[gb187]? = some (.cells #[.int .i64 a0_0, .int .i64 a0_1, .string a0_2, (.slice A0_3 l0_3.length c0_3), (.slice A0_4 l0_4.length c0_4)] 30 (0, 0))) ∧ Aside0 (Below w.heap.size w wc))
    case first =>
     have H := HC11.out
     clear HC11
     replace H := Option.bind_eq_some_iff.mp H
     obtain ⟨t190, A130, H⟩ := H
     replace H : (if ((a0_0 == 4) != t190) = true then (spec_l5Form.j1 k1 true a0_0 a0_1 a0_2 l0_3 l0_4) else (if a0_0 = 4 then (if a0_0 = 3 then (spec_l5Form.j1 k1 false a0_0 a0_1 a0_2 l0_3 l0_4) else (spec_l5Form.j1 k1 (decide ((l0_3.length : Int) > 0)) a0_0 a0_1 a0_2 l0_3 l0_4)) else (if a0_2.toList = ([] : List UInt8) then (if a0_0 = 3 then (spec_l5Form.j1 k1 false a0_0 a0_1 a0_2 l0_3 l0_4) else (spec_l5Form.j1 k1 (decide ((l0_3.length : Int) > 0)) a0_0 a0_1 a0_2 l0_3 l0_4)) else (spec_l5Form.j1 k1 true a0_0 a0_1 a0_2 l0_3 l0_4)))) = some r := H
     have A13 := Aside0.mk A130
     clear A130
     by_cases c14 : ((a0_0 == 4) != t190) = true
     ·rw [if_pos c14] at H
      have c14b0 : ((a0_0 == 4) != t190) = true := c14
      (try (have c14b1 : decide ((a0_0 == 4) = t190) = false := by simpa using c14))
      (try (have c14b2 : ((a0_0 == 4) == t190) = false := by simpa using c14))
      (try (have c14b3 : ¬ ((a0_0 == 4) = t190) := by simpa using c14))
      clear c14
      (first | rw [c14b0] | (simp only [i64_w, i32_w]; rw [c14b0]) | (rw [c14b2]; simp only [Bool.not_true, Bool.not_false]) | skip)
      have H' := Aside0.mk H
      clear H
      obtain ⟨hcz15_0, hcz15_1, hcz15_2, hcz15_3, hcz15_4, hfz15_0, hfz15_1, hfz15_2, hfz15_3, hfz15_4⟩ := box5_ BK187.out
      go_wp2_with (first | ((with_reducible refine gate_callee (f := 84) rfl ?_); refine goesL_ (some 25) rfl rfl Try.func84 (by kernel_rfl) rfl #[.string a0_2] rfl ma_ ?_; (with_reducible refine (spec_IsName.calls k1 a0_2 t190 _ A13.out).mono ?_); rintro e w' ⟨rfl, ⟨nd, rfl⟩⟩; refine ⟨_, rfl, ?_⟩))
      refine Met.intro ?_
      go_step
      (repeat apply Exists.intro)
      refine ⟨?rel, ?eqs⟩
      case eqs => first | rfl | (simp only [c14b0, c3b0]; rfl)
      case rel => exact ⟨_, (true), q_, H', ⟨by have := HK1.out; first | omega | exact Nat.le_refl _⟩, ⟨K_ BK187.out⟩, ⟨B1_ HB.out GE187.out⟩⟩
     ·rw [if_neg c14] at H
      have c14b0 : ((a0_0 == 4) != t190) = false := by simpa using c14
      (try (have c14b1 : decide ((a0_0 == 4) = t190) = true := by simpa using c14))
      (try (have c14b2 : ((a0_0 == 4) == t190) = true := by simpa using c14))
      clear c14
      (first | rw [c14b0] | (simp only [i64_w, i32_w]; rw [c14b0]) | (rw [c14b2]; simp only [Bool.not_true, Bool.not_false]) | skip)
      by_cases c16 : a0_0 = 4
      ·rw [if_pos c16] at H
       have c16b0 : (a0_0 == 4) = true := beq_iff_eq.mpr c16
       have c16b1 : (a0_0 != 4) = false := bne_eq_false_iff_eq.mpr c16
       have c16t : t190 = true := by rw [c16b0] at c14b0; simpa using c14b0
       clear c16
       by_cases c17 : a0_0 = 3
       ·rw [if_pos c17] at H
        have c17b0 : (a0_0 == 3) = true := beq_iff_eq.mpr c17
        have c17b1 : (a0_0 != 3) = false := bne_eq_false_iff_eq.mpr c17
        clear c17
        have H' := Aside0.mk H
        clear H
        obtain ⟨hcz18_0, hcz18_1, hcz18_2, hcz18_3, hcz18_4, hfz18_0, hfz18_1, hfz18_2, hfz18_3, hfz18_4⟩ := box5_ BK187.out
        go_wp2_with (first | ((with_reducible refine gate_callee (f := 84) rfl ?_); refine goesL_ (some 25) rfl rfl Try.func84 (by kernel_rfl) rfl #[.string a0_2] rfl ma_ ?_; (with_reducible refine (spec_IsName.calls k1 a0_2 t190 _ A13.out).mono ?_); rintro e w' ⟨rfl, ⟨nd, rfl⟩⟩; refine ⟨_, rfl, ?_⟩))
        refine Met.intro ?_
        go_step
        (repeat apply Exists.intro)
        refine ⟨?rel, ?eqs⟩
        case eqs => first | rfl | (simp only [c17b1, c17b0, c16b1, c16b0, c14b0, c3b0]; rfl)
        case rel => exact ⟨_, (false), q_, H', ⟨by have := HK1.out; first | omega | exact Nat.le_refl _⟩, ⟨K_ BK187.out⟩, ⟨B1_ HB.out GE187.out⟩⟩
       ·rw [if_neg c17] at H
        have c17b0 : (a0_0 == 3) = false := beq_eq_false_iff_ne.mpr c17
        have c17b1 : (a0_0 != 3) = true := bne_iff_ne.mpr c17
        have H' := Aside0.mk H
        clear H
        obtain ⟨hcz19_0, hcz19_1, hcz19_2, hcz19_3, hcz19_4, hfz19_0, hfz19_1, hfz19_2, hfz19_3, hfz19_4⟩ := box5_ BK187.out
        go_wp2_with (first | ((with_reducible refine gate_callee (f := 84) rfl ?_); refine goesL_ (some 25) rfl rfl Try.func84 (by kernel_rfl) rfl #[.string a0_2] rfl ma_ ?_; (with_reducible refine (spec_IsName.calls k1 a0_2 t190 _ A13.out).mono ?_); rintro e w' ⟨rfl, ⟨nd, rfl⟩⟩; refine ⟨_, rfl, ?_⟩))
        refine Met.intro ?_
        go_step
        (repeat apply Exists.intro)
        refine ⟨?rel, ?eqs⟩
        case eqs => first | rfl | (simp only [c17b1, c17b0, c16b1, c16b0, c14b0, c3b0]; rfl)
        case rel => exact ⟨_, (decide ((l0_3.length : Int) > 0)), q_, H', ⟨by have := HK1.out; first | omega | exact Nat.le_refl _⟩, ⟨K_ BK187.out⟩, ⟨B1_ HB.out GE187.out⟩⟩
      ·rw [if_neg c16] at H
       have c16b0 : (a0_0 == 4) = false := beq_eq_false_iff_ne.mpr c16
       have c16b1 : (a0_0 != 4) = true := bne_iff_ne.mpr c16
       have c16t : t190 = false := by rw [c16b0] at c14b0; simpa using c14b0
       by_cases c20 : a0_2.toList = ([] : List UInt8)
       ·rw [if_pos c20] at H
        have c20b0 : (a0_2.toList == ([] : List UInt8)) = true := beq_iff_eq.mpr c20
        have c20b1 : (a0_2.toList != ([] : List UInt8)) = false := bne_eq_false_iff_eq.mpr c20
        clear c20
        by_cases c21 : a0_0 = 3
        ·rw [if_pos c21] at H
         have c21b0 : (a0_0 == 3) = true := beq_iff_eq.mpr c21
         have c21b1 : (a0_0 != 3) = false := bne_eq_false_iff_eq.mpr c21
         clear c21
         have H' := Aside0.mk H
         clear H
         obtain ⟨hcz22_0, hcz22_1, hcz22_2, hcz22_3, hcz22_4, hfz22_0, hfz22_1, hfz22_2, hfz22_3, hfz22_4⟩ := box5_ BK187.out
         go_wp2_with (first | ((with_reducible refine gate_callee (f := 84) rfl ?_); refine goesL_ (some 25) rfl rfl Try.func84 (by kernel_rfl) rfl #[.string a0_2] rfl ma_ ?_; (with_reducible refine (spec_IsName.calls k1 a0_2 t190 _ A13.out).mono ?_); rintro e w' ⟨rfl, ⟨nd, rfl⟩⟩; refine ⟨_, rfl, ?_⟩))
         refine Met.intro ?_
         go_step
         (repeat apply Exists.intro)
         refine ⟨?rel, ?eqs⟩
         case eqs => first | rfl | (simp only [c21b1, c21b0, c20b1, c20b0, c16b1, c16b0, c14b0, c3b0]; rfl)
         case rel => exact ⟨_, (false), q_, H', ⟨by have := HK1.out; first | omega | exact Nat.le_refl _⟩, ⟨K_ BK187.out⟩, ⟨B1_ HB.out GE187.out⟩⟩
        ·rw [if_neg c21] at H
         have c21b0 : (a0_0 == 3) = false := beq_eq_false_iff_ne.mpr c21
         have c21b1 : (a0_0 != 3) = true := bne_iff_ne.mpr c21
         have H' := Aside0.mk H
         clear H
         obtain ⟨hcz23_0, hcz23_1, hcz23_2, hcz23_3, hcz23_4, hfz23_0, hfz23_1, hfz23_2, hfz23_3, hfz23_4⟩ := box5_ BK187.out
         go_wp2_with (first | ((with_reducible refine gate_callee (f := 84) rfl ?_); refine goesL_ (some 25) rfl rfl Try.func84 (by kernel_rfl) rfl #[.string a0_2] rfl ma_ ?_; (with_reducible refine (spec_IsName.calls k1 a0_2 t190 _ A13.out).mono ?_); rintro e w' ⟨rfl, ⟨nd, rfl⟩⟩; refine ⟨_, rfl, ?_⟩))
         refine Met.intro ?_
         go_step
         (repeat apply Exists.intro)
         refine ⟨?rel, ?eqs⟩
         case eqs => first | rfl | (simp only [c21b1, c21b0, c20b1, c20b0, c16b1, c16b0, c14b0, c3b0]; rfl)
         case rel => exact ⟨_, (decide ((l0_3.length : Int) > 0)), q_, H', ⟨by have := HK1.out; first | omega | exact Nat.le_refl _⟩, ⟨K_ BK187.out⟩, ⟨B1_ HB.out GE187.out⟩⟩
       ·rw [if_neg c20] at H
        have c20b0 : (a0_2.toList == ([] : List UInt8)) = false := beq_eq_false_iff_ne.mpr c20
        have c20b1 : (a0_2.toList != ([] : List UInt8)) = true := bne_iff_ne.mpr c20
        have H' := Aside0.mk H
        clear H
        obtain ⟨hcz24_0, hcz24_1, hcz24_2, hcz24_3, hcz24_4, hfz24_0, hfz24_1, hfz24_2, hfz24_3, hfz24_4⟩ := box5_ BK187.out
        go_wp2_with (first | ((with_reducible refine gate_callee (f := 84) rfl ?_); refine goesL_ (some 25) rfl rfl Try.func84 (by kernel_rfl) rfl #[.string a0_2] rfl ma_ ?_; (with_reducible refine (spec_IsName.calls k1 a0_2 t190 _ A13.out).mono ?_); rintro e w' ⟨rfl, ⟨nd, rfl⟩⟩; refine ⟨_, rfl, ?_⟩))
        refine Met.intro ?_
        go_step
        (repeat apply Exists.intro)
        refine ⟨?rel, ?eqs⟩
        case eqs => first | rfl | (simp only [c20b1, c20b0, c16b1, c16b0, c14b0, c3b0]; rfl)
        case rel => exact ⟨_, (true), q_, H', ⟨by have := HK1.out; first | omega | exact Nat.le_refl _⟩, ⟨K_ BK187.out⟩, ⟨B1_ HB.out GE187.out⟩⟩
    case rest =>
     clear HC11
     try clear c3
     try clear c3b0
     try clear hcz12_0
     try clear hcz12_1
     try clear hcz12_2
     try clear hcz12_3
     try clear hcz12_4
     try clear hfz12_0
     try clear hfz12_1
     try clear hfz12_2
     try clear hfz12_3
     try clear hfz12_4
     obtain ⟨kq, x46_10, rfl, HA, HJ10, BK187, HB⟩ := hcut
     cases kq with
     | zero => exact absurd HA.out (by simp [spec_l5Form.j1])
     | succ kj10 =>
      have H := HA.out
      clear HA
      simp only [spec_l5Form.j1] at H
      by_cases c25 : x46_10 = true
      ·subst c25
       have H1 : (some false) = some r := by rw [if_pos rfl] at H; exact H
       clear H
       have H := H1
       clear H1
       obtain rfl := Option.some.inj H
       go_wp2
       go_ret
       exact ⟨er_, B1_ HB.out GE187.out⟩
      ·replace c25 := Bool.eq_false_iff.mpr c25
       subst c25
       have H1 : (if a0_0 = 1 then (some ((l0_4.length : Int) == 0)) else (if a0_0 = 2 then (if (l0_4.length : Int) = 0 then ((spec_l1In.f a0_1 0 1).bind fun t191 => (some t191)) else (some false)) else (if a0_0 = 3 then (if a0_1 = 0 then (if (l0_3.length : Int) = (l0_4.length : Int) then ((spec_l3Labels.f kj10 l0_3).bind fun t192 => (some t192)) else (some false)) else (some false)) else (if a0_0 = 4 then (if a0_1 = 0 then (some ((l0_4.length : Int) == 1)) else (some false)) else (if a0_0 = 5 then (some (a0_1 == 0)) else (some false)))))) = some r := by rw [if_neg (show ¬ (false = true) by decide)] at H; exact H
       clear H
       have H := H1
       clear H1
       by_cases c26 : a0_0 = 1
       ·rw [if_pos c26] at H
        have c26b0 : (a0_0 == 1) = true := beq_iff_eq.mpr c26
        have c26b1 : (a0_0 != 1) = false := bne_eq_false_iff_eq.mpr c26
        clear c26
        obtain rfl := Option.some.inj H
        obtain ⟨hcz27_0, hcz27_1, hcz27_2, hcz27_3, hcz27_4, hfz27_0, hfz27_1, hfz27_2, hfz27_3, hfz27_4⟩ := box5_ BK187.out
        go_wp2
        go_ret
        exact ⟨er_, B1_ HB.out GE187.out⟩
       ·rw [if_neg c26] at H
        have c26b0 : (a0_0 == 1) = false := beq_eq_false_iff_ne.mpr c26
        have c26b1 : (a0_0 != 1) = true := bne_iff_ne.mpr c26
        by_cases c28 : a0_0 = 2
        ·rw [if_pos c28] at H
         have c28b0 : (a0_0 == 2) = true := beq_iff_eq.mpr c28
         have c28b1 : (a0_0 != 2) = false := bne_eq_false_iff_eq.mpr c28
         clear c28
         by_cases c29 : (l0_4.length : Int) = 0
         ·rw [if_pos c29] at H
          have c29b0 : ((l0_4.length : Int) == 0) = true := beq_iff_eq.mpr c29
          have c29b1 : ((l0_4.length : Int) != 0) = false := bne_eq_false_iff_eq.mpr c29
          clear c29
          replace H := Option.bind_eq_some_iff.mp H
          obtain ⟨t191, A300, H⟩ := H
          replace H : (some t191) = some r := H
          have A30 := Aside0.mk A300
          clear A300
          obtain rfl := Option.some.inj H
          obtain ⟨hcz31_0, hcz31_1, hcz31_2, hcz31_3, hcz31_4, hfz31_0, hfz31_1, hfz31_2, hfz31_3, hfz31_4⟩ := box5_ BK187.out
          go_wp2_with (first | (go_at_call 85; (with_reducible refine (spec_l1In.calls a0_1 0 1 t191 _ A30.out).mono ?_); rintro e w' ⟨rfl, ⟨nd, rfl⟩⟩))
          go_ret
          exact ⟨er_, B1_ HB.out GE187.out⟩
         ·rw [if_neg c29] at H
          have c29b0 : ((l0_4.length : Int) == 0) = false := beq_eq_false_iff_ne.mpr c29
          have c29b1 : ((l0_4.length : Int) != 0) = true := bne_iff_ne.mpr c29
          have c29b2 : ¬ (l0_4 = []) := fun h_ => c29 (by rw [h_]; rfl)
          obtain rfl := Option.some.inj H
          obtain ⟨hcz32_0, hcz32_1, hcz32_2, hcz32_3, hcz32_4, hfz32_0, hfz32_1, hfz32_2, hfz32_3, hfz32_4⟩ := box5_ BK187.out
          go_wp2
          go_ret
          exact ⟨er_, B1_ HB.out GE187.out⟩
        ·rw [if_neg c28] at H
         have c28b0 : (a0_0 == 2) = false := beq_eq_false_iff_ne.mpr c28
         have c28b1 : (a0_0 != 2) = true := bne_iff_ne.mpr c28
         by_cases c33 : a0_0 = 3
         ·rw [if_pos c33] at H
          have c33b0 : (a0_0 == 3) = true := beq_iff_eq.mpr c33
          have c33b1 : (a0_0 != 3) = false := bne_eq_false_iff_eq.mpr c33
          clear c33
          by_cases c34 : a0_1 = 0
          ·rw [if_pos c34] at H
           have c34b0 : (a0_1 == 0) = true := beq_iff_eq.mpr c34
           have c34b1 : (a0_1 != 0) = false := bne_eq_false_iff_eq.mpr c34
           clear c34
           by_cases c35 : (l0_3.length : Int) = (l0_4.length : Int)
           ·rw [if_pos c35] at H
            have c35b0 : ((l0_3.length : Int) == (l0_4.length : Int)) = true := beq_iff_eq.mpr c35
            have c35b1 : ((l0_3.length : Int) != (l0_4.length : Int)) = false := bne_eq_false_iff_eq.mpr c35
            have c35b2 : (l0_3.length == l0_4.length) = true := by first | simpa using c35 | (simp at c35 ⊢; omega)
            clear c35
            replace H := Option.bind_eq_some_iff.mp H
            obtain ⟨t192, A360, H⟩ := H
            replace H : (some t192) = some r := H
            have A36 := Aside0.mk A360
            clear A360
            obtain rfl := Option.some.inj H
            obtain ⟨hcz37_0, hcz37_1, hcz37_2, hcz37_3, hcz37_4, hfz37_0, hfz37_1, hfz37_2, hfz37_3, hfz37_4⟩ := box5_ BK187.out
            go_wp2_with (first | (go_at_call 86; (with_reducible refine (spec_l3Labels.calls kj10 _ _ l0_3 t192 _ ?side1 ?side2 A36.out).mono ?_); (case side1 => exact C_ (Kd.C_below HR0_3.out HB.out)); (case side2 => exact HC0_3.out); rintro e w' ⟨rfl, ⟨nd, rfl⟩⟩))
            go_ret
            exact ⟨er_, B1_ HB.out GE187.out⟩
           ·rw [if_neg c35] at H
            have c35b0 : ((l0_3.length : Int) == (l0_4.length : Int)) = false := beq_eq_false_iff_ne.mpr c35
            have c35b1 : ((l0_3.length : Int) != (l0_4.length : Int)) = true := bne_iff_ne.mpr c35
            have c35b2 : (l0_3.length == l0_4.length) = false := by first | simpa using c35 | (simp at c35 ⊢; omega)
            obtain rfl := Option.some.inj H
            obtain ⟨hcz38_0, hcz38_1, hcz38_2, hcz38_3, hcz38_4, hfz38_0, hfz38_1, hfz38_2, hfz38_3, hfz38_4⟩ := box5_ BK187.out
            go_wp2
            go_ret
            exact ⟨er_, B1_ HB.out GE187.out⟩
          ·rw [if_neg c34] at H
           have c34b0 : (a0_1 == 0) = false := beq_eq_false_iff_ne.mpr c34
           have c34b1 : (a0_1 != 0) = true := bne_iff_ne.mpr c34
           obtain rfl := Option.some.inj H
           obtain ⟨hcz39_0, hcz39_1, hcz39_2, hcz39_3, hcz39_4, hfz39_0, hfz39_1, hfz39_2, hfz39_3, hfz39_4⟩ := box5_ BK187.out
           go_wp2
           go_ret
           exact ⟨er_, B1_ HB.out GE187.out⟩
         ·rw [if_neg c33] at H
          have c33b0 : (a0_0 == 3) = false := beq_eq_false_iff_ne.mpr c33
          have c33b1 : (a0_0 != 3) = true := bne_iff_ne.mpr c33
          by_cases c40 : a0_0 = 4
          ·rw [if_pos c40] at H
           have c40b0 : (a0_0 == 4) = true := beq_iff_eq.mpr c40
           have c40b1 : (a0_0 != 4) = false := bne_eq_false_iff_eq.mpr c40
           clear c40
           by_cases c41 : a0_1 = 0
           ·rw [if_pos c41] at H
            have c41b0 : (a0_1 == 0) = true := beq_iff_eq.mpr c41
            have c41b1 : (a0_1 != 0) = false := bne_eq_false_iff_eq.mpr c41
            clear c41
            obtain rfl := Option.some.inj H
            obtain ⟨hcz42_0, hcz42_1, hcz42_2, hcz42_3, hcz42_4, hfz42_0, hfz42_1, hfz42_2, hfz42_3, hfz42_4⟩ := box5_ BK187.out
            go_wp2
            go_ret
            exact ⟨er_, B1_ HB.out GE187.out⟩
           ·rw [if_neg c41] at H
            have c41b0 : (a0_1 == 0) = false := beq_eq_false_iff_ne.mpr c41
            have c41b1 : (a0_1 != 0) = true := bne_iff_ne.mpr c41
            obtain rfl := Option.some.inj H
            obtain ⟨hcz43_0, hcz43_1, hcz43_2, hcz43_3, hcz43_4, hfz43_0, hfz43_1, hfz43_2, hfz43_3, hfz43_4⟩ := box5_ BK187.out
            go_wp2
            go_ret
            exact ⟨er_, B1_ HB.out GE187.out⟩
          ·rw [if_neg c40] at H
           have c40b0 : (a0_0 == 4) = false := beq_eq_false_iff_ne.mpr c40
           have c40b1 : (a0_0 != 4) = true := bne_iff_ne.mpr c40
           by_cases c44 : a0_0 = 5
           ·rw [if_pos c44] at H
            have c44b0 : (a0_0 == 5) = true := beq_iff_eq.mpr c44
            have c44b1 : (a0_0 != 5) = false := bne_eq_false_iff_eq.mpr c44
            clear c44
            obtain rfl := Option.some.inj H
            obtain ⟨hcz45_0, hcz45_1, hcz45_2, hcz45_3, hcz45_4, hfz45_0, hfz45_1, hfz45_2, hfz45_3, hfz45_4⟩ := box5_ BK187.out
            go_wp2
            go_ret
            exact ⟨er_, B1_ HB.out GE187.out⟩
           ·rw [if_neg c44] at H
            have c44b0 : (a0_0 == 5) = false := beq_eq_false_iff_ne.mpr c44
            have c44b1 : (a0_0 != 5) = true := bne_iff_ne.mpr c44
            obtain rfl := Option.some.inj H
            obtain ⟨hcz46_0, hcz46_1, hcz46_2, hcz46_3, hcz46_4, hfz46_0, hfz46_1, hfz46_2, hfz46_3, hfz46_4⟩ := box5_ BK187.out
            go_wp2
            go_ret
            exact ⟨er_, B1_ HB.out GE187.out⟩

/-! ### spec_IsValue: function 19 -/
def spec_IsValue.f (k : Nat) (a0_0 : Int) (a0_1 : Int) (a0_2 : ByteArray) (l0_3 : List ByteArray) (l0_4 : List (S30)) : Option (Bool) := (spec_l5Left.f k a0_0 a0_1 a0_2 l0_3 l0_4 300).bind fun t194 => (if t194 ≥ 0 then ((spec_l5Form.f k a0_0 a0_1 a0_2 l0_3 l0_4).bind fun t195 => (some t195)) else (some false))
theorem spec_IsValue.mono : ∀ a0 a1 a2 a3 a4 k, LeO (spec_IsValue.f k a0 a1 a2 a3 a4) (spec_IsValue.f (k + 1) a0 a1 a2 a3 a4) := by
 intro a0 a1 a2 a3 a4 k
 unfold spec_IsValue.f
 repeat' first
   | (with_reducible exact spec_l5Form.mono _ _ _ _ _ _)
   | (with_reducible exact spec_l5Left.mono _ _ _ _ _ _ _)
   | (with_reducible exact LeO.refl _)
   | (with_reducible exact LeO.none _)
   | (with_reducible refine LeO.ite ?_ ?_)
   | (with_reducible refine LeO.bind ?_ (fun _ => ?_))
   | exact spec_l5Form.mono _ _ _ _ _ _
   | exact spec_l5Left.mono _ _ _ _ _ _ _
   | exact LeO.none _
   | refine LeO.ite ?_ ?_
   | refine LeO.bind ?_ (fun _ => ?_)
set_option maxHeartbeats 8000000 in
set_option maxRecDepth 100000 in
theorem spec_IsValue.calls (k : Nat) (a0_0 : Int) (a0_1 : Int) (a0_2 : ByteArray) (A0_3 : Option Addr) (c0_3 : Nat) (l0_3 : List ByteArray) (A0_4 : Option Addr) (c0_4 : Nat) (l0_4 : List (S30)) (r : Bool) (w : World) (hr0_3 : Kd.C Kd.string w A0_3 l0_3.length l0_3) (hc0_3 : l0_3.length ≤ c0_3) (hr0_4 : Kd.C k30 w A0_4 l0_4.length l0_4) (hc0_4 : l0_4.length ≤ c0_4) (h : spec_IsValue.f k a0_0 a0_1 a0_2 l0_3 l0_4 = some r) :
  Calls Try.prog 19 #[.agg #[.int .i64 a0_0, .int .i64 a0_1, .string a0_2, .slice A0_3 l0_3.length c0_3, .slice A0_4 l0_4.length c0_4]] w fun e w' => e = .returned (.bool r) ∧ Below w.heap.size w w' := by
 have hu30 := Try.underlying30
 have HR0_3 := Aside0.mk hr0_3
 have HC0_3 := Aside0.mk hc0_3
 clear hr0_3 hc0_3
 have HR0_4 := Aside0.mk hr0_4
 have HC0_4 := Aside0.mk hc0_4
 clear hr0_4 hc0_4
 have HB := Aside0.mk (Below.refl w.heap.size w)
 have H : ((spec_l5Left.f k a0_0 a0_1 a0_2 l0_3 l0_4 300).bind fun t194 => (if t194 ≥ 0 then ((spec_l5Form.f k a0_0 a0_1 a0_2 l0_3 l0_4).bind fun t195 => (some t195)) else (some false))) = some r := h
 clear h
 replace H := Option.bind_eq_some_iff.mp H
 obtain ⟨t194, A20, H⟩ := H
 replace H : (if t194 ≥ 0 then ((spec_l5Form.f k a0_0 a0_1 a0_2 l0_3 l0_4).bind fun t195 => (some t195)) else (some false)) = some r := H
 have A2 := Aside0.mk A20
 clear A20
 by_cases c3 : t194 ≥ 0
 ·rw [if_pos c3] at H
  have c3b0 : decide (0 ≤ t194) = true := decide_eq_true c3
  clear c3
  replace H := Option.bind_eq_some_iff.mp H
  obtain ⟨t195, A40, H⟩ := H
  replace H : (some t195) = some r := H
  have A4 := Aside0.mk A40
  clear A40
  obtain rfl := Option.some.inj H
  go_enter Try.func19, Try.ntmps19
  go_wp2_with (first | ((with_reducible refine gate_dst (N := 1) rfl ?_); refine box_event ?hg (N := 1) ?hd (cs := #[.int .i64 a0_0, .int .i64 a0_1, .string a0_2, .slice A0_3 l0_3.length c0_3, .slice A0_4 l0_4.length c0_4]) (t := 30) ?hr ?_; (case hd => rfl); (case hg => rfl); (case hr => first | (go_simp; done) | (go_simp; rfl)); intro gb193 hg w5 hbox hb; have BK193 := Aside0.mk (hbox); have GW193 := Aside0.mk ((by rw [hg]; exact (below_size (B0_ HB.out)) : w.heap.size ≤ gb193)); have GE193 := Aside0.mk ((by rw [hg]; exact (below_size (B0_ HB.out)) : w.heap.size ≤ gb193)); replace HB := Aside0.mk (below_step (B0_ HB.out) hb); clear hb hbox hg; obtain ⟨hcz6_0, hcz6_1, hcz6_2, hcz6_3, hcz6_4, hfz6_0, hfz6_1, hfz6_2, hfz6_3, hfz6_4⟩ := box5_ BK193.out) | ((with_reducible refine gate_callee (f := 52) rfl ?_); refine goesL_ (some 4) rfl rfl Try.func52 (by kernel_rfl) rfl #[.agg #[.int .i64 a0_0, .int .i64 a0_1, .string a0_2, .slice A0_3 l0_3.length c0_3, .slice A0_4 l0_4.length c0_4], .int .i64 300] rfl ma_ ?_; (with_reducible refine (spec_l5Left.calls k a0_0 a0_1 a0_2 _ _ l0_3 _ _ l0_4 300 t194 _ ?side1 ?side2 ?side3 ?side4 A2.out).mono ?_); (case side1 => exact C_ (Kd.C_below HR0_3.out HB.out)); (case side2 => exact HC0_3.out); (case side3 => exact C_ (Kd.C_below HR0_4.out HB.out)); (case side4 => exact HC0_4.out); rintro e w7 ⟨rfl, hb⟩; refine ⟨_, rfl, ?_⟩; replace BK193 := Aside0.mk (blk_below (K_ BK193.out) hb); replace HB := Aside0.mk (below_step (B1_ HB.out GE193.out) hb); (try clear hb); (try clear hb2); (try clear hk); (try clear hi); obtain ⟨hcz8_0, hcz8_1, hcz8_2, hcz8_3, hcz8_4, hfz8_0, hfz8_1, hfz8_2, hfz8_3, hfz8_4⟩ := box5_ BK193.out) | (go_at_call 53; (with_reducible refine (spec_l5Form.calls k a0_0 a0_1 a0_2 _ _ l0_3 _ _ l0_4 t195 _ ?side1 ?side2 ?side3 ?side4 A4.out).mono ?_); (case side1 => exact C_ (Kd.C_below HR0_3.out HB.out)); (case side2 => exact HC0_3.out); (case side3 => exact C_ (Kd.C_below HR0_4.out HB.out)); (case side4 => exact HC0_4.out); rintro e w9 ⟨rfl, hb⟩; replace BK193 := Aside0.mk (blk_below (K_ BK193.out) hb); replace HB := Aside0.mk (below_step (B1_ HB.out GE193.out) hb); (try clear hb); (try clear hb2); (try clear hk); (try clear hi)))
  go_ret
  exact ⟨er_, B1_ HB.out GE193.out⟩
 ·rw [if_neg c3] at H
  have c3b0 : decide (0 ≤ t194) = false := decide_eq_false c3
  clear c3
  obtain rfl := Option.some.inj H
  go_enter Try.func19, Try.ntmps19
  go_wp2_with (first | ((with_reducible refine gate_dst (N := 1) rfl ?_); refine box_event ?hg (N := 1) ?hd (cs := #[.int .i64 a0_0, .int .i64 a0_1, .string a0_2, .slice A0_3 l0_3.length c0_3, .slice A0_4 l0_4.length c0_4]) (t := 30) ?hr ?_; (case hd => rfl); (case hg => rfl); (case hr => first | (go_simp; done) | (go_simp; rfl)); intro gb193 hg w10 hbox hb; have BK193 := Aside0.mk (hbox); have GW193 := Aside0.mk ((by rw [hg]; exact (below_size (B0_ HB.out)) : w.heap.size ≤ gb193)); have GE193 := Aside0.mk ((by rw [hg]; exact (below_size (B0_ HB.out)) : w.heap.size ≤ gb193)); replace HB := Aside0.mk (below_step (B0_ HB.out) hb); clear hb hbox hg; obtain ⟨hcz11_0, hcz11_1, hcz11_2, hcz11_3, hcz11_4, hfz11_0, hfz11_1, hfz11_2, hfz11_3, hfz11_4⟩ := box5_ BK193.out) | ((with_reducible refine gate_callee (f := 52) rfl ?_); refine goesL_ (some 4) rfl rfl Try.func52 (by kernel_rfl) rfl #[.agg #[.int .i64 a0_0, .int .i64 a0_1, .string a0_2, .slice A0_3 l0_3.length c0_3, .slice A0_4 l0_4.length c0_4], .int .i64 300] rfl ma_ ?_; (with_reducible refine (spec_l5Left.calls k a0_0 a0_1 a0_2 _ _ l0_3 _ _ l0_4 300 t194 _ ?side1 ?side2 ?side3 ?side4 A2.out).mono ?_); (case side1 => exact C_ (Kd.C_below HR0_3.out HB.out)); (case side2 => exact HC0_3.out); (case side3 => exact C_ (Kd.C_below HR0_4.out HB.out)); (case side4 => exact HC0_4.out); rintro e w12 ⟨rfl, hb⟩; refine ⟨_, rfl, ?_⟩; replace BK193 := Aside0.mk (blk_below (K_ BK193.out) hb); replace HB := Aside0.mk (below_step (B1_ HB.out GE193.out) hb); (try clear hb); (try clear hb2); (try clear hk); (try clear hi)))
  go_ret
  exact ⟨er_, B1_ HB.out GE193.out⟩

end Go.Proofs.Ytmelflbbeecjfaa.XB
