-- Written by myprint.py, a program of this session, which runs the kit's printer with changes of its own. Lean checks it.
import Derived.Test.YtingaflikkeefaaXBx0
import Derived.Test.YtingaflikkeefaaXBx5
import Derived.Test.YtingaflikkeefaaSq
namespace Go.Proofs.Ytingaflikkeefaa.XB
open Go.RowKit Go.Proofs.YtingaflikkeefaaW.PrintWords Go.Proofs.YtingaflikkeefaaW.PrintLast Go.Proofs.YtingaflikkeefaaW.PrintMore Go.Proofs.Ytingaflikkeefaa.Sq
attribute [local go_sem] max2_int min2_int max_two min_two max_three min_three max_four min_four   -- for this text's walks alone
set_option linter.unusedVariables false
set_option linter.unusedSimpArgs false

/-! ### spec_l3Labels: function 69 -/
def spec_l3Labels.l0 : Nat → List ByteArray → Int → Option (Bool)
 | 0, _, _ => none
 | k + 1, x0, x3 => if x3 < (x0.length : Int) then (if 0 ≤ x3 then ((spec_IsName.f k (rdOf ByteArray.empty x0 x3)).bind fun t136 => (if t136 = true then (spec_l3Labels.l0 k x0 (wrap64 (x3 + 1))) else (some false))) else (none)) else ((spec_l1In.f (x0.length : Int) 1 4).bind fun t137 => (if t137 = true then ((spec_AreAscending.f k x0).bind fun t138 => (some t138)) else (some false)))
def spec_l3Labels.f (k : Nat) (l0 : List ByteArray) : Option (Bool) := spec_l3Labels.l0 k l0 0
theorem spec_l3Labels.mono_l : ∀ k, (∀ y0 y1, LeO (spec_l3Labels.l0 k y0 y1) (spec_l3Labels.l0 (k + 1) y0 y1))
 | 0 => fun _ _ r h => by simp [spec_l3Labels.l0] at h
 | k + 1 => by
  have ih0 := spec_l3Labels.mono_l k
  ·intro y0 y1
   unfold spec_l3Labels.l0
   repeat' first
   | (with_reducible exact ih0 _ _)
   | (with_reducible exact spec_AreAscending.mono _ _)
   | (with_reducible exact spec_IsName.mono _ _)
   | (with_reducible exact LeO.refl _)
   | (with_reducible exact LeO.none _)
   | (with_reducible refine LeO.ite ?_ ?_)
   | (with_reducible refine LeO.bind ?_ (fun _ => ?_))
   | exact ih0 _ _
   | exact spec_AreAscending.mono _ _
   | exact spec_IsName.mono _ _
   | exact LeO.none _
   | refine LeO.ite ?_ ?_
   | refine LeO.bind ?_ (fun _ => ?_)
theorem spec_l3Labels.mono : ∀ a0 k, LeO (spec_l3Labels.f k a0) (spec_l3Labels.f (k + 1) a0) := by
 intro a0 k
 have ih0 := spec_l3Labels.mono_l k
 unfold spec_l3Labels.f
 repeat' first
   | (with_reducible exact ih0 _ _)
   | (with_reducible exact spec_AreAscending.mono _ _)
   | (with_reducible exact spec_IsName.mono _ _)
   | (with_reducible exact LeO.refl _)
   | (with_reducible exact LeO.none _)
   | (with_reducible refine LeO.ite ?_ ?_)
   | (with_reducible refine LeO.bind ?_ (fun _ => ?_))
   | exact ih0 _ _
   | exact spec_AreAscending.mono _ _
   | exact spec_IsName.mono _ _
   | exact LeO.none _
   | refine LeO.ite ?_ ?_
   | refine LeO.bind ?_ (fun _ => ?_)
set_option maxHeartbeats 8000000 in
set_option maxRecDepth 100000 in
theorem spec_l3Labels.calls (k : Nat) (A0 : Option Addr) (c0 : Nat) (l0 : List ByteArray) (r : Bool) (w : World) (hr0 : Kd.C Kd.string w A0 l0.length l0) (hc0 : l0.length ≤ c0) (h : spec_l3Labels.f k l0 = some r) :
  Calls Try.prog 69 #[.slice A0 l0.length c0] w fun e w' => e = .returned (.bool r) ∧ Drawn0 w w' := by
 have HR0 := Aside0.mk hr0
 have HC0 := Aside0.mk hc0
 clear hr0 hc0
 have H : (spec_l3Labels.l0 k l0 0) = some r := h
 clear h
 have H' := Aside0.mk H
 clear H
 go_enter Try.func69, Try.ntmps69
 go_wp2
 go_loopg [3] k (fun kq v3 w' => ∃ (x3_1 : Int), v3 = .int .i64 x3_1 ∧ Aside0 (spec_l3Labels.l0 kq l0 x3_1 = some r) ∧ Aside0 (kq ≤ k) ∧ Drawn0 w w')
 case atStart => exact ⟨(0), q_, H', ⟨Nat.le_refl _⟩, by repeat (first | exact Drawn0.refl _ | apply Drawn0.step)⟩
 case round =>
  clear H'
  obtain ⟨x3_1, rfl, HA, HK1, ⟨m1, rfl⟩⟩ := hrel
  cases gk with
  | zero => exact absurd HA.out (by simp [spec_l3Labels.l0])
  | succ k1 =>
   have H := HA.out
   clear HA
   simp only [spec_l3Labels.l0] at H
   by_cases c2 : x3_1 < (l0.length : Int)
   ·rw [if_pos c2] at H
    have c2b0 : decide (x3_1 < (l0.length : Int)) = true := decide_eq_true c2
    clear c2
    by_cases c3 : 0 ≤ x3_1
    ·rw [if_pos c3] at H
     have c3b0 : decide (0 ≤ x3_1) = true := decide_eq_true c3
     clear c3
     replace H := Option.bind_eq_some_iff.mp H
     obtain ⟨t136, A40, H⟩ := H
     replace H : (if t136 = true then (spec_l3Labels.l0 k1 l0 (wrap64 (x3_1 + 1))) else (some false)) = some r := H
     have A4 := Aside0.mk A40
     clear A40
     by_cases c5 : t136 = true
     ·subst c5
      have H1 : (spec_l3Labels.l0 k1 l0 (wrap64 (x3_1 + 1))) = some r := by rw [if_pos rfl] at H; exact H
      clear H
      have H := H1
      clear H1
      have H' := Aside0.mk H
      clear H
      have p135 : 0 ≤ (x3_1 : Int) := de_
      have q135 : x3_1 < (l0.length : Int) := de_
      obtain ⟨ad135, e135, hx135_0⟩ := Kd.at_string HR0.out x3_1 p135 q135
      cases e135
      replace p135 := eq_true p135
      replace q135 := eq_true q135
      go_wp2_with (first | ((with_reducible refine gate_callee (f := 85) rfl ?_); refine goesL_ (some 14) rfl rfl Try.func85 (by kernel_rfl) rfl #[.string (rdOf ByteArray.empty l0 x3_1)] rfl ma_ ?_; (with_reducible refine (spec_IsName.calls k1 (rdOf ByteArray.empty l0 x3_1) true _ A4.out).mono ?_); rintro e w' ⟨rfl, ⟨nd, rfl⟩⟩; refine ⟨_, rfl, ?_⟩))
      go_roundg k1
      case measure => have := HK1.out; omega
      case rel => exact ⟨(wrap64 (x3_1 + 1)), q_, H', ⟨by have := HK1.out; omega⟩, by repeat (first | exact Drawn0.refl _ | apply Drawn0.step)⟩
     ·replace c5 := Bool.eq_false_iff.mpr c5
      subst c5
      have H1 : (some false) = some r := by rw [if_neg (show ¬ (false = true) by decide)] at H; exact H
      clear H
      have H := H1
      clear H1
      obtain rfl := Option.some.inj H
      have p135 : 0 ≤ (x3_1 : Int) := de_
      have q135 : x3_1 < (l0.length : Int) := de_
      obtain ⟨ad135, e135, hx135_0⟩ := Kd.at_string HR0.out x3_1 p135 q135
      cases e135
      replace p135 := eq_true p135
      replace q135 := eq_true q135
      go_wp2_with (first | ((with_reducible refine gate_callee (f := 85) rfl ?_); refine goesL_ (some 14) rfl rfl Try.func85 (by kernel_rfl) rfl #[.string (rdOf ByteArray.empty l0 x3_1)] rfl ma_ ?_; (with_reducible refine (spec_IsName.calls k1 (rdOf ByteArray.empty l0 x3_1) false _ A4.out).mono ?_); rintro e w' ⟨rfl, ⟨nd, rfl⟩⟩; refine ⟨_, rfl, ?_⟩))
      go_ret
      exact ⟨by first | rfl | (simp; done) | (simp [*]; done), by repeat (first | exact Drawn0.refl _ | apply Drawn0.step)⟩
    ·rw [if_neg c3] at H
     exact absurd H (by simp)
   ·rw [if_neg c2] at H
    have c2b0 : decide (x3_1 < (l0.length : Int)) = false := decide_eq_false c2
    clear c2
    replace H := Option.bind_eq_some_iff.mp H
    obtain ⟨t137, A60, H⟩ := H
    replace H : (if t137 = true then ((spec_AreAscending.f k1 l0).bind fun t138 => (some t138)) else (some false)) = some r := H
    have A6 := Aside0.mk A60
    clear A60
    by_cases c7 : t137 = true
    ·subst c7
     have H1 : ((spec_AreAscending.f k1 l0).bind fun t138 => (some t138)) = some r := by rw [if_pos rfl] at H; exact H
     clear H
     have H := H1
     clear H1
     replace H := Option.bind_eq_some_iff.mp H
     obtain ⟨t138, A80, H⟩ := H
     replace H : (some t138) = some r := H
     have A8 := Aside0.mk A80
     clear A80
     obtain rfl := Option.some.inj H
     go_wp2_with (first | ((with_reducible refine gate_callee (f := 86) rfl ?_); refine goesL_ (some 18) rfl rfl Try.func86 (by kernel_rfl) rfl #[.int .i64 (l0.length : Int), .int .i64 1, .int .i64 4] rfl ma_ ?_; (with_reducible refine (spec_l1In.calls (l0.length : Int) 1 4 true _ A6.out).mono ?_); rintro e w' ⟨rfl, ⟨nd, rfl⟩⟩; refine ⟨_, rfl, ?_⟩) | (go_at_call 87; (with_reducible refine (spec_AreAscending.calls k1 _ _ l0 t138 _ ?side1 ?side2 A8.out).mono ?_); (case side1 => exact C_ HR0.out); (case side2 => exact HC0.out); rintro e w' ⟨rfl, ⟨nd, rfl⟩⟩))
     go_ret
     exact ⟨by first | rfl | (simp; done) | (simp [*]; done), by repeat (first | exact Drawn0.refl _ | apply Drawn0.step)⟩
    ·replace c7 := Bool.eq_false_iff.mpr c7
     subst c7
     have H1 : (some false) = some r := by rw [if_neg (show ¬ (false = true) by decide)] at H; exact H
     clear H
     have H := H1
     clear H1
     obtain rfl := Option.some.inj H
     go_wp2_with (first | ((with_reducible refine gate_callee (f := 86) rfl ?_); refine goesL_ (some 18) rfl rfl Try.func86 (by kernel_rfl) rfl #[.int .i64 (l0.length : Int), .int .i64 1, .int .i64 4] rfl ma_ ?_; (with_reducible refine (spec_l1In.calls (l0.length : Int) 1 4 false _ A6.out).mono ?_); rintro e w' ⟨rfl, ⟨nd, rfl⟩⟩; refine ⟨_, rfl, ?_⟩))
     go_ret
     exact ⟨by first | rfl | (simp; done) | (simp [*]; done), by repeat (first | exact Drawn0.refl _ | apply Drawn0.step)⟩

/-! ### spec_l3Form: function 50 -/
mutual
def spec_l3Form.l0 : Nat → Int → Int → List ByteArray → List (S30) → Option (Bool)
 | 0, _, _, _, _ => none
 | k + 1, x3, x140000, x140001, x140002 => if x3 < (x140002.length : Int) then (if 0 ≤ x3 then ((spec_l3Form.f k ((rd_T30 x140002 x3).f0) ((rd_T30 x140002 x3).f1) ((rd_T30 x140002 x3).f2)).bind fun t141 => (if t141 = true then (spec_l3Form.l0 k (wrap64 (x3 + 1)) x140000 x140001 x140002) else (some false))) else (none)) else (if x140000 = 1 then (spec_l3Form.j1 k x140000 (x140000 == 1) x140000 x140001 x140002) else (spec_l3Form.j1 k x140000 (x140000 == 2) x140000 x140001 x140002))
def spec_l3Form.j1 : Nat → Int → Bool → Int → List ByteArray → List (S30) → Option (Bool)
 | 0, _, _, _, _, _ => none
 | k + 1, x19, x20, x140000, x140001, x140002 => if x20 = true then (if (x140001.length : Int) = 0 then (some ((x140002.length : Int) == 0)) else (some false)) else (if x19 = 3 then (spec_l3Form.j2 k x19 (x19 == 3) x140000 x140001 x140002) else (spec_l3Form.j2 k x19 (x19 == 4) x140000 x140001 x140002))
def spec_l3Form.j2 : Nat → Int → Bool → Int → List ByteArray → List (S30) → Option (Bool)
 | 0, _, _, _, _, _ => none
 | k + 1, x19, x33, x140000, x140001, x140002 => if x33 = true then (if (x140002.length : Int) = (x140001.length : Int) then ((spec_l3Labels.f k x140001).bind fun t142 => (some t142)) else (some false)) else (if x19 = 5 then (if (x140001.length : Int) = 0 then (some ((x140002.length : Int) == 1)) else (some false)) else (some false))
def spec_l3Form.f : Nat → Int → List ByteArray → List (S30) → Option (Bool)
 | 0, _, _, _ => none
 | k + 1, a0_0, l0_1, l0_2 => spec_l3Form.l0 k 0 a0_0 l0_1 l0_2
end
theorem spec_l3Form.mono_l : ∀ k, (∀ y0 y1 y2, LeO (spec_l3Form.f k y0 y1 y2) (spec_l3Form.f (k + 1) y0 y1 y2)) ∧ (∀ y0 y1 y2 y3, LeO (spec_l3Form.l0 k y0 y1 y2 y3) (spec_l3Form.l0 (k + 1) y0 y1 y2 y3)) ∧ (∀ y0 y1 y2 y3 y4, LeO (spec_l3Form.j1 k y0 y1 y2 y3 y4) (spec_l3Form.j1 (k + 1) y0 y1 y2 y3 y4)) ∧ (∀ y0 y1 y2 y3 y4, LeO (spec_l3Form.j2 k y0 y1 y2 y3 y4) (spec_l3Form.j2 (k + 1) y0 y1 y2 y3 y4))
 | 0 => ⟨fun _ _ _ r h => by simp [spec_l3Form.f] at h, fun _ _ _ _ r h => by simp [spec_l3Form.l0] at h, fun _ _ _ _ _ r h => by simp [spec_l3Form.j1] at h, fun _ _ _ _ _ r h => by simp [spec_l3Form.j2] at h⟩
 | k + 1 => by
  obtain ⟨ih0, ih1, ih2, ih3⟩ := spec_l3Form.mono_l k
  refine ⟨?_, ?_, ?_, ?_⟩
  ·intro y0 y1 y2
   unfold spec_l3Form.f
   repeat' first
   | (with_reducible exact ih0 _ _ _)
   | (with_reducible exact ih1 _ _ _ _)
   | (with_reducible exact ih2 _ _ _ _ _)
   | (with_reducible exact ih3 _ _ _ _ _)
   | (with_reducible exact spec_l3Labels.mono _ _)
   | (with_reducible exact LeO.refl _)
   | (with_reducible exact LeO.none _)
   | (with_reducible refine LeO.ite ?_ ?_)
   | (with_reducible refine LeO.bind ?_ (fun _ => ?_))
   | exact ih0 _ _ _
   | exact ih1 _ _ _ _
   | exact ih2 _ _ _ _ _
   | exact ih3 _ _ _ _ _
   | exact spec_l3Labels.mono _ _
   | exact LeO.none _
   | refine LeO.ite ?_ ?_
   | refine LeO.bind ?_ (fun _ => ?_)
  ·intro y0 y1 y2 y3
   unfold spec_l3Form.l0
   repeat' first
   | (with_reducible exact ih0 _ _ _)
   | (with_reducible exact ih1 _ _ _ _)
   | (with_reducible exact ih2 _ _ _ _ _)
   | (with_reducible exact ih3 _ _ _ _ _)
   | (with_reducible exact spec_l3Labels.mono _ _)
   | (with_reducible exact LeO.refl _)
   | (with_reducible exact LeO.none _)
   | (with_reducible refine LeO.ite ?_ ?_)
   | (with_reducible refine LeO.bind ?_ (fun _ => ?_))
   | exact ih0 _ _ _
   | exact ih1 _ _ _ _
   | exact ih2 _ _ _ _ _
   | exact ih3 _ _ _ _ _
   | exact spec_l3Labels.mono _ _
   | exact LeO.none _
   | refine LeO.ite ?_ ?_
   | refine LeO.bind ?_ (fun _ => ?_)
  ·intro y0 y1 y2 y3 y4
   unfold spec_l3Form.j1
   repeat' first
   | (with_reducible exact ih0 _ _ _)
   | (with_reducible exact ih1 _ _ _ _)
   | (with_reducible exact ih2 _ _ _ _ _)
   | (with_reducible exact ih3 _ _ _ _ _)
   | (with_reducible exact spec_l3Labels.mono _ _)
   | (with_reducible exact LeO.refl _)
   | (with_reducible exact LeO.none _)
   | (with_reducible refine LeO.ite ?_ ?_)
   | (with_reducible refine LeO.bind ?_ (fun _ => ?_))
   | exact ih0 _ _ _
   | exact ih1 _ _ _ _
   | exact ih2 _ _ _ _ _
   | exact ih3 _ _ _ _ _
   | exact spec_l3Labels.mono _ _
   | exact LeO.none _
   | refine LeO.ite ?_ ?_
   | refine LeO.bind ?_ (fun _ => ?_)
  ·intro y0 y1 y2 y3 y4
   unfold spec_l3Form.j2
   repeat' first
   | (with_reducible exact ih0 _ _ _)
   | (with_reducible exact ih1 _ _ _ _)
   | (with_reducible exact ih2 _ _ _ _ _)
   | (with_reducible exact ih3 _ _ _ _ _)
   | (with_reducible exact spec_l3Labels.mono _ _)
   | (with_reducible exact LeO.refl _)
   | (with_reducible exact LeO.none _)
   | (with_reducible refine LeO.ite ?_ ?_)
   | (with_reducible refine LeO.bind ?_ (fun _ => ?_))
   | exact ih0 _ _ _
   | exact ih1 _ _ _ _
   | exact ih2 _ _ _ _ _
   | exact ih3 _ _ _ _ _
   | exact spec_l3Labels.mono _ _
   | exact LeO.none _
   | refine LeO.ite ?_ ?_
   | refine LeO.bind ?_ (fun _ => ?_)
theorem spec_l3Form.mono : ∀ a0 a1 a2 k, LeO (spec_l3Form.f k a0 a1 a2) (spec_l3Form.f (k + 1) a0 a1 a2) := by
 intro a0 a1 a2 k
 obtain ⟨ih0, ih1, ih2, ih3⟩ := spec_l3Form.mono_l k
 exact ih0 a0 a1 a2
set_option maxHeartbeats 8000000 in
set_option maxRecDepth 100000 in
theorem spec_l3Form.calls (k : Nat) : ∀ (a0_0 : Int) (A0_1 : Option Addr) (c0_1 : Nat) (l0_1 : List ByteArray) (A0_2 : Option Addr) (c0_2 : Nat) (l0_2 : List (S30)) (r : Bool) (w : World) (hr0_1 : Kd.C Kd.string w A0_1 l0_1.length l0_1) (hc0_1 : l0_1.length ≤ c0_1) (hr0_2 : Kd.C k30 w A0_2 l0_2.length l0_2) (hc0_2 : l0_2.length ≤ c0_2) (h : spec_l3Form.f k a0_0 l0_1 l0_2 = some r),
  Calls Try.prog 50 #[.agg #[.int .i64 a0_0, .slice A0_1 l0_1.length c0_1, .slice A0_2 l0_2.length c0_2]] w fun e w' => e = .returned (.bool r) ∧ Below w.heap.size w w' := by
 induction k using Nat.strongRecOn with
 | _ k ih =>
 intro a0_0 A0_1 c0_1 l0_1 A0_2 c0_2 l0_2 r w hr0_1 hc0_1 hr0_2 hc0_2 h
 cases k with
 | zero => exact absurd h (by simp [spec_l3Form.f])
 | succ k =>
 simp only [spec_l3Form.f] at h
 have hu30 := Try.underlying30
 have HR0_1 := Aside0.mk hr0_1
 have HC0_1 := Aside0.mk hc0_1
 clear hr0_1 hc0_1
 have HR0_2 := Aside0.mk hr0_2
 have HC0_2 := Aside0.mk hc0_2
 clear hr0_2 hc0_2
 have HB := Aside0.mk (Below.refl w.heap.size w)
 have H : (spec_l3Form.l0 k 0 a0_0 l0_1 l0_2) = some r := h
 clear h
 have H' := Aside0.mk H
 clear H
 go_enter Try.func50, Try.ntmps50
 go_wp2_with (first | ((with_reducible refine gate_dst (N := 1) rfl ?_); (try (refine gate_guard (by rfl) ?_; dsimp only)); refine box_event ?hg (N := 1) ?hd (cs := #[.int .i64 a0_0, .slice A0_1 l0_1.length c0_1, .slice A0_2 l0_2.length c0_2]) (t := 30) ?hr ?_; (case hd => rfl); (case hg => rfl); (case hr => first | (go_simp; done) | (go_simp; rfl)); intro gb139 hg w2 hbox hb; have BK139 := Aside0.mk (hbox); have GW139 := Aside0.mk ((by rw [hg]; exact (below_size (B0_ HB.out)) : w.heap.size ≤ gb139)); have GE139 := Aside0.mk ((by rw [hg]; exact (below_size (B0_ HB.out)) : w.heap.size ≤ gb139)); replace HB := Aside0.mk (below_step (B0_ HB.out) hb); clear hb hbox hg))
 go_loopg [3] k (fun kq v3 w' => ∃ (x3_1 : Int), v3 = .int .i64 x3_1 ∧ Aside0 (spec_l3Form.l0 kq x3_1 a0_0 l0_1 l0_2 = some r) ∧ Aside0 (kq ≤ k) ∧ Aside0 (w'.heap[gb139]? = some (.cells #[.int .i64 a0_0, (.slice A0_1 l0_1.length c0_1), (.slice A0_2 l0_2.length c0_2)] 30 (0, 0))) ∧ Aside0 (Below w.heap.size w w'))
 case atStart => exact ⟨(0), q_, H', ⟨Nat.le_refl _⟩, ⟨K_ BK139.out⟩, ⟨B1_ HB.out GE139.out⟩⟩
 case round =>
  clear H'
  obtain ⟨x3_1, rfl, HA, HK1, BK139, HB⟩ := hrel
  cases gk with
  | zero => exact absurd HA.out (by simp [spec_l3Form.l0])
  | succ k1 =>
   have H := HA.out
   clear HA
   simp only [spec_l3Form.l0] at H
   by_cases c3 : x3_1 < (l0_2.length : Int)
   ·rw [if_pos c3] at H
    have c3b0 : decide (x3_1 < (l0_2.length : Int)) = true := decide_eq_true c3
    clear c3
    by_cases c4 : 0 ≤ x3_1
    ·rw [if_pos c4] at H
     have c4b0 : decide (0 ≤ x3_1) = true := decide_eq_true c4
     clear c4
     replace H := Option.bind_eq_some_iff.mp H
     obtain ⟨t141, A50, H⟩ := H
     replace H : (if t141 = true then (spec_l3Form.l0 k1 (wrap64 (x3_1 + 1)) a0_0 l0_1 l0_2) else (some false)) = some r := H
     have A5 := Aside0.mk A50
     clear A50
     by_cases c6 : t141 = true
     ·subst c6
      have H1 : (spec_l3Form.l0 k1 (wrap64 (x3_1 + 1)) a0_0 l0_1 l0_2) = some r := by rw [if_pos rfl] at H; exact H
      clear H
      have H := H1
      clear H1
      have H' := Aside0.mk H
      clear H
      obtain ⟨hcz7_0, hcz7_1, hcz7_2, hfz7_0, hfz7_1, hfz7_2⟩ := box3_ BK139.out
      have p140 : 0 ≤ (x3_1 : Int) := de_
      have q140 : x3_1 < (l0_2.length : Int) := de_
      obtain ⟨ad140, A140_1, c140_1, A140_2, c140_2, e140, hx140_0, hx140_1, hx140_2, hl140_1, hi140_1, hl140_2, hi140_2⟩ := at_T30 HR0_2.out x3_1 p140 q140
      cases e140
      replace hx140_0 := (HB.out.cell (World.block_lt_of_cell? w _ hx140_0)).trans hx140_0
      replace hx140_1 := (HB.out.cell (World.block_lt_of_cell? w _ hx140_1)).trans hx140_1
      replace hx140_2 := (HB.out.cell (World.block_lt_of_cell? w _ hx140_2)).trans hx140_2
      have HR140_1 := Aside0.mk hi140_1
      have HC140_1 := Aside0.mk hl140_1
      clear hi140_1 hl140_1
      have HR140_2 := Aside0.mk hi140_2
      have HC140_2 := Aside0.mk hl140_2
      clear hi140_2 hl140_2
      replace p140 := eq_true p140
      replace q140 := eq_true q140
      go_wp2_with (first | ((with_reducible refine gate_callee (f := 50) rfl ?_); refine goesL_ (some 16) rfl rfl Try.func50 (by kernel_rfl) rfl #[.agg #[.int .i64 ((rd_T30 l0_2 x3_1).f0), .slice A140_1 ((rd_T30 l0_2 x3_1).f1).length c140_1, .slice A140_2 ((rd_T30 l0_2 x3_1).f2).length c140_2]] rfl ma_ ?_; (with_reducible refine (ih k1 (by have := HK1.out; omega) ((rd_T30 l0_2 x3_1).f0) _ _ ((rd_T30 l0_2 x3_1).f1) _ _ ((rd_T30 l0_2 x3_1).f2) true _ ?side1 ?side2 ?side3 ?side4 A5.out).mono ?_); (case side1 => exact C_ (Kd.C_below HR140_1.out HB.out)); (case side2 => exact HC140_1.out); (case side3 => exact C_ (Kd.C_below HR140_2.out HB.out)); (case side4 => exact HC140_2.out); rintro e w8 ⟨rfl, hb⟩; refine ⟨_, rfl, ?_⟩; replace BK139 := kb_ BK139 hb; replace HB := Aside0.mk (below_step (B1_ HB.out GE139.out) hb); (try clear hb); (try clear hb2); (try clear hk); (try clear hi)))
      go_roundg k1
      case measure => have := HK1.out; omega
      case rel => exact ⟨(wrap64 (x3_1 + 1)), q_, H', ⟨by have := HK1.out; omega⟩, ⟨K_ BK139.out⟩, ⟨B1_ HB.out GE139.out⟩⟩
     ·replace c6 := Bool.eq_false_iff.mpr c6
      subst c6
      have H1 : (some false) = some r := by rw [if_neg (show ¬ (false = true) by decide)] at H; exact H
      clear H
      have H := H1
      clear H1
      obtain rfl := Option.some.inj H
      obtain ⟨hcz9_0, hcz9_1, hcz9_2, hfz9_0, hfz9_1, hfz9_2⟩ := box3_ BK139.out
      have p140 : 0 ≤ (x3_1 : Int) := de_
      have q140 : x3_1 < (l0_2.length : Int) := de_
      obtain ⟨ad140, A140_1, c140_1, A140_2, c140_2, e140, hx140_0, hx140_1, hx140_2, hl140_1, hi140_1, hl140_2, hi140_2⟩ := at_T30 HR0_2.out x3_1 p140 q140
      cases e140
      replace hx140_0 := (HB.out.cell (World.block_lt_of_cell? w _ hx140_0)).trans hx140_0
      replace hx140_1 := (HB.out.cell (World.block_lt_of_cell? w _ hx140_1)).trans hx140_1
      replace hx140_2 := (HB.out.cell (World.block_lt_of_cell? w _ hx140_2)).trans hx140_2
      have HR140_1 := Aside0.mk hi140_1
      have HC140_1 := Aside0.mk hl140_1
      clear hi140_1 hl140_1
      have HR140_2 := Aside0.mk hi140_2
      have HC140_2 := Aside0.mk hl140_2
      clear hi140_2 hl140_2
      replace p140 := eq_true p140
      replace q140 := eq_true q140
      go_wp2_with (first | ((with_reducible refine gate_callee (f := 50) rfl ?_); refine goesL_ (some 16) rfl rfl Try.func50 (by kernel_rfl) rfl #[.agg #[.int .i64 ((rd_T30 l0_2 x3_1).f0), .slice A140_1 ((rd_T30 l0_2 x3_1).f1).length c140_1, .slice A140_2 ((rd_T30 l0_2 x3_1).f2).length c140_2]] rfl ma_ ?_; (with_reducible refine (ih k1 (by have := HK1.out; omega) ((rd_T30 l0_2 x3_1).f0) _ _ ((rd_T30 l0_2 x3_1).f1) _ _ ((rd_T30 l0_2 x3_1).f2) false _ ?side1 ?side2 ?side3 ?side4 A5.out).mono ?_); (case side1 => exact C_ (Kd.C_below HR140_1.out HB.out)); (case side2 => exact HC140_1.out); (case side3 => exact C_ (Kd.C_below HR140_2.out HB.out)); (case side4 => exact HC140_2.out); rintro e w10 ⟨rfl, hb⟩; refine ⟨_, rfl, ?_⟩; replace BK139 := kb_ BK139 hb; replace HB := Aside0.mk (below_step (B1_ HB.out GE139.out) hb); (try clear hb); (try clear hb2); (try clear hk); (try clear hi)))
      go_ret
      exact ⟨er_, B1_ HB.out GE139.out⟩
    ·rw [if_neg c4] at H
     exact absurd H (by simp)
   ·rw [if_neg c3] at H
    have c3b0 : decide (x3_1 < (l0_2.length : Int)) = false := decide_eq_false c3
    clear c3
    have HC11 := Aside0.mk H
    clear H
    obtain ⟨hcz12_0, hcz12_1, hcz12_2, hfz12_0, hfz12_1, hfz12_2⟩ := box3_ BK139.out
    go_upto_if 20 with (fail)
    go_cut [20] (fun v20 wc => ∃ (kq : Nat) (x20_10 : Bool), v20 = .bool x20_10 ∧ Aside0 (spec_l3Form.j1 kq a0_0 x20_10 a0_0 l0_1 l0_2 = some r) ∧ Aside0 (kq ≤ k1) ∧ Aside0 (wc.heap[gb139]? = some (.cells #[.int .i64 a0_0, (.slice A0_1 l0_1.length c0_1), (.slice A0_2 l0_2.length c0_2)] 30 (0, 0))) ∧ Aside0 (Below w.heap.size w wc))
    case first =>
     have H := HC11.out
     clear HC11
     by_cases c13 : a0_0 = 1
     ·rw [if_pos c13] at H
      have c13b0 : (a0_0 == 1) = true := beq_iff_eq.mpr c13
      have c13b1 : (a0_0 != 1) = false := bne_eq_false_iff_eq.mpr c13
      clear c13
      (first | rw [c13b0] | (simp only [i64_w, i32_w]; rw [c13b0]) | skip)
      have H' := Aside0.mk H
      clear H
      go_wp2
      go_meet
      case rel => exact ⟨_, ((a0_0 == 1)), q_, H', ⟨by have := HK1.out; first | omega | exact Nat.le_refl _⟩, ⟨K_ BK139.out⟩, ⟨B1_ HB.out GE139.out⟩⟩
     ·rw [if_neg c13] at H
      have c13b0 : (a0_0 == 1) = false := beq_eq_false_iff_ne.mpr c13
      have c13b1 : (a0_0 != 1) = true := bne_iff_ne.mpr c13
      (first | rw [c13b0] | (simp only [i64_w, i32_w]; rw [c13b0]) | skip)
      have H' := Aside0.mk H
      clear H
      go_wp2
      go_meet
      case rel => exact ⟨_, ((a0_0 == 2)), q_, H', ⟨by have := HK1.out; first | omega | exact Nat.le_refl _⟩, ⟨K_ BK139.out⟩, ⟨B1_ HB.out GE139.out⟩⟩
    case rest =>
     clear HC11
     try clear c3
     try clear c3b0
     try clear hcz12_0
     try clear hcz12_1
     try clear hcz12_2
     try clear hfz12_0
     try clear hfz12_1
     try clear hfz12_2
     obtain ⟨kq, x20_10, rfl, HA, HJ10, BK139, HB⟩ := hcut
     cases kq with
     | zero => exact absurd HA.out (by simp [spec_l3Form.j1])
     | succ kj10 =>
      have H := HA.out
      clear HA
      simp only [spec_l3Form.j1] at H
      by_cases c14 : x20_10 = true
      ·subst c14
       have H1 : (if (l0_1.length : Int) = 0 then (some ((l0_2.length : Int) == 0)) else (some false)) = some r := by rw [if_pos rfl] at H; exact H
       clear H
       have H := H1
       clear H1
       by_cases c15 : (l0_1.length : Int) = 0
       ·rw [if_pos c15] at H
        have c15b0 : ((l0_1.length : Int) == 0) = true := beq_iff_eq.mpr c15
        have c15b1 : ((l0_1.length : Int) != 0) = false := bne_eq_false_iff_eq.mpr c15
        clear c15
        obtain rfl := Option.some.inj H
        obtain ⟨hcz16_0, hcz16_1, hcz16_2, hfz16_0, hfz16_1, hfz16_2⟩ := box3_ BK139.out
        go_wp2
        go_ret
        exact ⟨er_, B1_ HB.out GE139.out⟩
       ·rw [if_neg c15] at H
        have c15b0 : ((l0_1.length : Int) == 0) = false := beq_eq_false_iff_ne.mpr c15
        have c15b1 : ((l0_1.length : Int) != 0) = true := bne_iff_ne.mpr c15
        have c15b2 : ¬ (l0_1 = []) := fun h_ => c15 (by rw [h_]; rfl)
        obtain rfl := Option.some.inj H
        obtain ⟨hcz17_0, hcz17_1, hcz17_2, hfz17_0, hfz17_1, hfz17_2⟩ := box3_ BK139.out
        go_wp2
        go_ret
        exact ⟨er_, B1_ HB.out GE139.out⟩
      ·replace c14 := Bool.eq_false_iff.mpr c14
       subst c14
       have H1 : (if a0_0 = 3 then (spec_l3Form.j2 kj10 a0_0 (a0_0 == 3) a0_0 l0_1 l0_2) else (spec_l3Form.j2 kj10 a0_0 (a0_0 == 4) a0_0 l0_1 l0_2)) = some r := by rw [if_neg (show ¬ (false = true) by decide)] at H; exact H
       clear H
       have H := H1
       clear H1
       have HC18 := Aside0.mk H
       clear H
       go_upto_if 33 with (fail)
       go_cut [33] (fun v33 wc => ∃ (kq : Nat) (x33_17 : Bool), v33 = .bool x33_17 ∧ Aside0 (spec_l3Form.j2 kq a0_0 x33_17 a0_0 l0_1 l0_2 = some r) ∧ Aside0 (kq ≤ kj10) ∧ Aside0 (wc.heap[gb139]? = some (.cells #[.int .i64 a0_0, (.slice A0_1 l0_1.length c0_1), (.slice A0_2 l0_2.length c0_2)] 30 (0, 0))) ∧ Aside0 (Below w.heap.size w wc))
       case first =>
        have H := HC18.out
        clear HC18
        by_cases c19 : a0_0 = 3
        ·rw [if_pos c19] at H
         have c19b0 : (a0_0 == 3) = true := beq_iff_eq.mpr c19
         have c19b1 : (a0_0 != 3) = false := bne_eq_false_iff_eq.mpr c19
         clear c19
         (first | rw [c19b0] | (simp only [i64_w, i32_w]; rw [c19b0]) | skip)
         have H' := Aside0.mk H
         clear H
         go_wp2
         go_meet
         case rel => exact ⟨_, ((a0_0 == 3)), q_, H', ⟨by have := HK1.out; have := HJ10.out; first | omega | exact Nat.le_refl _⟩, ⟨K_ BK139.out⟩, ⟨B1_ HB.out GE139.out⟩⟩
        ·rw [if_neg c19] at H
         have c19b0 : (a0_0 == 3) = false := beq_eq_false_iff_ne.mpr c19
         have c19b1 : (a0_0 != 3) = true := bne_iff_ne.mpr c19
         (first | rw [c19b0] | (simp only [i64_w, i32_w]; rw [c19b0]) | skip)
         have H' := Aside0.mk H
         clear H
         go_wp2
         go_meet
         case rel => exact ⟨_, ((a0_0 == 4)), q_, H', ⟨by have := HK1.out; have := HJ10.out; first | omega | exact Nat.le_refl _⟩, ⟨K_ BK139.out⟩, ⟨B1_ HB.out GE139.out⟩⟩
       case rest =>
        clear HC18
        try clear c3
        try clear c3b0
        try clear c14
        try clear hcz12_0
        try clear hcz12_1
        try clear hcz12_2
        try clear hfz12_0
        try clear hfz12_1
        try clear hfz12_2
        obtain ⟨kq, x33_17, rfl, HA, HJ17, BK139, HB⟩ := hcut
        cases kq with
        | zero => exact absurd HA.out (by simp [spec_l3Form.j2])
        | succ kj17 =>
         have H := HA.out
         clear HA
         simp only [spec_l3Form.j2] at H
         by_cases c20 : x33_17 = true
         ·subst c20
          have H1 : (if (l0_2.length : Int) = (l0_1.length : Int) then ((spec_l3Labels.f kj17 l0_1).bind fun t142 => (some t142)) else (some false)) = some r := by rw [if_pos rfl] at H; exact H
          clear H
          have H := H1
          clear H1
          by_cases c21 : (l0_2.length : Int) = (l0_1.length : Int)
          ·rw [if_pos c21] at H
           have c21b0 : ((l0_2.length : Int) == (l0_1.length : Int)) = true := beq_iff_eq.mpr c21
           have c21b1 : ((l0_2.length : Int) != (l0_1.length : Int)) = false := bne_eq_false_iff_eq.mpr c21
           have c21b2 : (l0_2.length == l0_1.length) = true := by first | simpa using c21 | (simp at c21 ⊢; omega)
           clear c21
           replace H := Option.bind_eq_some_iff.mp H
           obtain ⟨t142, A220, H⟩ := H
           replace H : (some t142) = some r := H
           have A22 := Aside0.mk A220
           clear A220
           obtain rfl := Option.some.inj H
           obtain ⟨hcz23_0, hcz23_1, hcz23_2, hfz23_0, hfz23_1, hfz23_2⟩ := box3_ BK139.out
           go_wp2_with (first | (go_at_call 69; (with_reducible refine (spec_l3Labels.calls kj17 _ _ l0_1 t142 _ ?side1 ?side2 A22.out).mono ?_); (case side1 => exact C_ (Kd.C_below HR0_1.out HB.out)); (case side2 => exact HC0_1.out); rintro e w' ⟨rfl, ⟨nd, rfl⟩⟩))
           go_ret
           exact ⟨er_, B1_ HB.out GE139.out⟩
          ·rw [if_neg c21] at H
           have c21b0 : ((l0_2.length : Int) == (l0_1.length : Int)) = false := beq_eq_false_iff_ne.mpr c21
           have c21b1 : ((l0_2.length : Int) != (l0_1.length : Int)) = true := bne_iff_ne.mpr c21
           have c21b2 : (l0_2.length == l0_1.length) = false := by first | simpa using c21 | (simp at c21 ⊢; omega)
           obtain rfl := Option.some.inj H
           obtain ⟨hcz24_0, hcz24_1, hcz24_2, hfz24_0, hfz24_1, hfz24_2⟩ := box3_ BK139.out
           go_wp2
           go_ret
           exact ⟨er_, B1_ HB.out GE139.out⟩
         ·replace c20 := Bool.eq_false_iff.mpr c20
          subst c20
          have H1 : (if a0_0 = 5 then (if (l0_1.length : Int) = 0 then (some ((l0_2.length : Int) == 1)) else (some false)) else (some false)) = some r := by rw [if_neg (show ¬ (false = true) by decide)] at H; exact H
          clear H
          have H := H1
          clear H1
          by_cases c25 : a0_0 = 5
          ·rw [if_pos c25] at H
           have c25b0 : (a0_0 == 5) = true := beq_iff_eq.mpr c25
           have c25b1 : (a0_0 != 5) = false := bne_eq_false_iff_eq.mpr c25
           clear c25
           by_cases c26 : (l0_1.length : Int) = 0
           ·rw [if_pos c26] at H
            have c26b0 : ((l0_1.length : Int) == 0) = true := beq_iff_eq.mpr c26
            have c26b1 : ((l0_1.length : Int) != 0) = false := bne_eq_false_iff_eq.mpr c26
            clear c26
            obtain rfl := Option.some.inj H
            obtain ⟨hcz27_0, hcz27_1, hcz27_2, hfz27_0, hfz27_1, hfz27_2⟩ := box3_ BK139.out
            go_wp2
            go_ret
            exact ⟨er_, B1_ HB.out GE139.out⟩
           ·rw [if_neg c26] at H
            have c26b0 : ((l0_1.length : Int) == 0) = false := beq_eq_false_iff_ne.mpr c26
            have c26b1 : ((l0_1.length : Int) != 0) = true := bne_iff_ne.mpr c26
            have c26b2 : ¬ (l0_1 = []) := fun h_ => c26 (by rw [h_]; rfl)
            obtain rfl := Option.some.inj H
            obtain ⟨hcz28_0, hcz28_1, hcz28_2, hfz28_0, hfz28_1, hfz28_2⟩ := box3_ BK139.out
            go_wp2
            go_ret
            exact ⟨er_, B1_ HB.out GE139.out⟩
          ·rw [if_neg c25] at H
           have c25b0 : (a0_0 == 5) = false := beq_eq_false_iff_ne.mpr c25
           have c25b1 : (a0_0 != 5) = true := bne_iff_ne.mpr c25
           obtain rfl := Option.some.inj H
           go_wp2
           go_ret
           exact ⟨er_, B1_ HB.out GE139.out⟩

/-! ### spec_IsValidType: function 22 -/
def spec_IsValidType.f (k : Nat) (a0_0 : Int) (l0_1 : List ByteArray) (l0_2 : List (S30)) : Option (Bool) := (spec_l3Left.f k a0_0 l0_1 l0_2 30).bind fun t144 => (if t144 ≥ 0 then ((spec_DepthOfType.f k a0_0 l0_1 l0_2).bind fun t145 => (if t145 ≤ 8 then ((spec_l3Form.f k a0_0 l0_1 l0_2).bind fun t146 => (some t146)) else (some false))) else (some false))
theorem spec_IsValidType.mono : ∀ a0 a1 a2 k, LeO (spec_IsValidType.f k a0 a1 a2) (spec_IsValidType.f (k + 1) a0 a1 a2) := by
 intro a0 a1 a2 k
 unfold spec_IsValidType.f
 repeat' first
   | (with_reducible exact spec_DepthOfType.mono _ _ _ _)
   | (with_reducible exact spec_l3Form.mono _ _ _ _)
   | (with_reducible exact spec_l3Left.mono _ _ _ _ _)
   | (with_reducible exact LeO.refl _)
   | (with_reducible exact LeO.none _)
   | (with_reducible refine LeO.ite ?_ ?_)
   | (with_reducible refine LeO.bind ?_ (fun _ => ?_))
   | exact spec_DepthOfType.mono _ _ _ _
   | exact spec_l3Form.mono _ _ _ _
   | exact spec_l3Left.mono _ _ _ _ _
   | exact LeO.none _
   | refine LeO.ite ?_ ?_
   | refine LeO.bind ?_ (fun _ => ?_)
set_option maxHeartbeats 8000000 in
set_option maxRecDepth 100000 in
theorem spec_IsValidType.calls (k : Nat) (a0_0 : Int) (A0_1 : Option Addr) (c0_1 : Nat) (l0_1 : List ByteArray) (A0_2 : Option Addr) (c0_2 : Nat) (l0_2 : List (S30)) (r : Bool) (w : World) (hr0_1 : Kd.C Kd.string w A0_1 l0_1.length l0_1) (hc0_1 : l0_1.length ≤ c0_1) (hr0_2 : Kd.C k30 w A0_2 l0_2.length l0_2) (hc0_2 : l0_2.length ≤ c0_2) (h : spec_IsValidType.f k a0_0 l0_1 l0_2 = some r) :
  Calls Try.prog 22 #[.agg #[.int .i64 a0_0, .slice A0_1 l0_1.length c0_1, .slice A0_2 l0_2.length c0_2]] w fun e w' => e = .returned (.bool r) ∧ Below w.heap.size w w' := by
 have hu30 := Try.underlying30
 have HR0_1 := Aside0.mk hr0_1
 have HC0_1 := Aside0.mk hc0_1
 clear hr0_1 hc0_1
 have HR0_2 := Aside0.mk hr0_2
 have HC0_2 := Aside0.mk hc0_2
 clear hr0_2 hc0_2
 have HB := Aside0.mk (Below.refl w.heap.size w)
 have H : ((spec_l3Left.f k a0_0 l0_1 l0_2 30).bind fun t144 => (if t144 ≥ 0 then ((spec_DepthOfType.f k a0_0 l0_1 l0_2).bind fun t145 => (if t145 ≤ 8 then ((spec_l3Form.f k a0_0 l0_1 l0_2).bind fun t146 => (some t146)) else (some false))) else (some false))) = some r := h
 clear h
 replace H := Option.bind_eq_some_iff.mp H
 obtain ⟨t144, A20, H⟩ := H
 replace H : (if t144 ≥ 0 then ((spec_DepthOfType.f k a0_0 l0_1 l0_2).bind fun t145 => (if t145 ≤ 8 then ((spec_l3Form.f k a0_0 l0_1 l0_2).bind fun t146 => (some t146)) else (some false))) else (some false)) = some r := H
 have A2 := Aside0.mk A20
 clear A20
 by_cases c3 : t144 ≥ 0
 ·rw [if_pos c3] at H
  have c3b0 : decide (0 ≤ t144) = true := decide_eq_true c3
  clear c3
  replace H := Option.bind_eq_some_iff.mp H
  obtain ⟨t145, A40, H⟩ := H
  replace H : (if t145 ≤ 8 then ((spec_l3Form.f k a0_0 l0_1 l0_2).bind fun t146 => (some t146)) else (some false)) = some r := H
  have A4 := Aside0.mk A40
  clear A40
  by_cases c5 : t145 ≤ 8
  ·rw [if_pos c5] at H
   have c5b0 : decide (t145 ≤ 8) = true := decide_eq_true c5
   clear c5
   replace H := Option.bind_eq_some_iff.mp H
   obtain ⟨t146, A60, H⟩ := H
   replace H : (some t146) = some r := H
   have A6 := Aside0.mk A60
   clear A60
   obtain rfl := Option.some.inj H
   go_enter Try.func22, Try.ntmps22
   go_wp2_with (first | ((with_reducible refine gate_dst (N := 1) rfl ?_); refine box_event ?hg (N := 1) ?hd (cs := #[.int .i64 a0_0, .slice A0_1 l0_1.length c0_1, .slice A0_2 l0_2.length c0_2]) (t := 30) ?hr ?_; (case hd => rfl); (case hg => rfl); (case hr => first | (go_simp; done) | (go_simp; rfl)); intro gb143 hg w7 hbox hb; have BK143 := Aside0.mk (hbox); have GW143 := Aside0.mk ((by rw [hg]; exact (below_size (B0_ HB.out)) : w.heap.size ≤ gb143)); have GE143 := Aside0.mk ((by rw [hg]; exact (below_size (B0_ HB.out)) : w.heap.size ≤ gb143)); replace HB := Aside0.mk (below_step (B0_ HB.out) hb); clear hb hbox hg; obtain ⟨hcz8_0, hcz8_1, hcz8_2, hfz8_0, hfz8_1, hfz8_2⟩ := box3_ BK143.out) | ((with_reducible refine gate_callee (f := 49) rfl ?_); refine goesL_ (some 4) rfl rfl Try.func49 (by kernel_rfl) rfl #[.agg #[.int .i64 a0_0, .slice A0_1 l0_1.length c0_1, .slice A0_2 l0_2.length c0_2], .int .i64 30] rfl ma_ ?_; (with_reducible refine (spec_l3Left.calls k a0_0 _ _ l0_1 _ _ l0_2 30 t144 _ ?side1 ?side2 ?side3 ?side4 A2.out).mono ?_); (case side1 => exact C_ (Kd.C_below HR0_1.out HB.out)); (case side2 => exact HC0_1.out); (case side3 => exact C_ (Kd.C_below HR0_2.out HB.out)); (case side4 => exact HC0_2.out); rintro e w9 ⟨rfl, hb⟩; refine ⟨_, rfl, ?_⟩; replace BK143 := kb_ BK143 hb; replace HB := Aside0.mk (below_step (B1_ HB.out GE143.out) hb); (try clear hb); (try clear hb2); (try clear hk); (try clear hi); obtain ⟨hcz10_0, hcz10_1, hcz10_2, hfz10_0, hfz10_1, hfz10_2⟩ := box3_ BK143.out) | (go_at_call 18; (with_reducible refine (spec_DepthOfType.calls k a0_0 _ _ l0_1 _ _ l0_2 t145 _ ?side1 ?side2 ?side3 ?side4 A4.out).mono ?_); (case side1 => exact C_ (Kd.C_below HR0_1.out HB.out)); (case side2 => exact HC0_1.out); (case side3 => exact C_ (Kd.C_below HR0_2.out HB.out)); (case side4 => exact HC0_2.out); rintro e w11 ⟨rfl, hb⟩; replace BK143 := kb_ BK143 hb; replace HB := Aside0.mk (below_step (B1_ HB.out GE143.out) hb); (try clear hb); (try clear hb2); (try clear hk); (try clear hi); obtain ⟨hcz12_0, hcz12_1, hcz12_2, hfz12_0, hfz12_1, hfz12_2⟩ := box3_ BK143.out) | (go_at_call 50; (with_reducible refine (spec_l3Form.calls k a0_0 _ _ l0_1 _ _ l0_2 t146 _ ?side1 ?side2 ?side3 ?side4 A6.out).mono ?_); (case side1 => exact C_ (Kd.C_below HR0_1.out HB.out)); (case side2 => exact HC0_1.out); (case side3 => exact C_ (Kd.C_below HR0_2.out HB.out)); (case side4 => exact HC0_2.out); rintro e w13 ⟨rfl, hb⟩; replace BK143 := kb_ BK143 hb; replace HB := Aside0.mk (below_step (B1_ HB.out GE143.out) hb); (try clear hb); (try clear hb2); (try clear hk); (try clear hi)))
   go_ret
   exact ⟨er_, B1_ HB.out GE143.out⟩
  ·rw [if_neg c5] at H
   have c5b0 : decide (t145 ≤ 8) = false := decide_eq_false c5
   clear c5
   obtain rfl := Option.some.inj H
   go_enter Try.func22, Try.ntmps22
   go_wp2_with (first | ((with_reducible refine gate_dst (N := 1) rfl ?_); refine box_event ?hg (N := 1) ?hd (cs := #[.int .i64 a0_0, .slice A0_1 l0_1.length c0_1, .slice A0_2 l0_2.length c0_2]) (t := 30) ?hr ?_; (case hd => rfl); (case hg => rfl); (case hr => first | (go_simp; done) | (go_simp; rfl)); intro gb143 hg w14 hbox hb; have BK143 := Aside0.mk (hbox); have GW143 := Aside0.mk ((by rw [hg]; exact (below_size (B0_ HB.out)) : w.heap.size ≤ gb143)); have GE143 := Aside0.mk ((by rw [hg]; exact (below_size (B0_ HB.out)) : w.heap.size ≤ gb143)); replace HB := Aside0.mk (below_step (B0_ HB.out) hb); clear hb hbox hg; obtain ⟨hcz15_0, hcz15_1, hcz15_2, hfz15_0, hfz15_1, hfz15_2⟩ := box3_ BK143.out) | ((with_reducible refine gate_callee (f := 49) rfl ?_); refine goesL_ (some 4) rfl rfl Try.func49 (by kernel_rfl) rfl #[.agg #[.int .i64 a0_0, .slice A0_1 l0_1.length c0_1, .slice A0_2 l0_2.length c0_2], .int .i64 30] rfl ma_ ?_; (with_reducible refine (spec_l3Left.calls k a0_0 _ _ l0_1 _ _ l0_2 30 t144 _ ?side1 ?side2 ?side3 ?side4 A2.out).mono ?_); (case side1 => exact C_ (Kd.C_below HR0_1.out HB.out)); (case side2 => exact HC0_1.out); (case side3 => exact C_ (Kd.C_below HR0_2.out HB.out)); (case side4 => exact HC0_2.out); rintro e w16 ⟨rfl, hb⟩; refine ⟨_, rfl, ?_⟩; replace BK143 := kb_ BK143 hb; replace HB := Aside0.mk (below_step (B1_ HB.out GE143.out) hb); (try clear hb); (try clear hb2); (try clear hk); (try clear hi); obtain ⟨hcz17_0, hcz17_1, hcz17_2, hfz17_0, hfz17_1, hfz17_2⟩ := box3_ BK143.out) | (go_at_call 18; (with_reducible refine (spec_DepthOfType.calls k a0_0 _ _ l0_1 _ _ l0_2 t145 _ ?side1 ?side2 ?side3 ?side4 A4.out).mono ?_); (case side1 => exact C_ (Kd.C_below HR0_1.out HB.out)); (case side2 => exact HC0_1.out); (case side3 => exact C_ (Kd.C_below HR0_2.out HB.out)); (case side4 => exact HC0_2.out); rintro e w18 ⟨rfl, hb⟩; replace BK143 := kb_ BK143 hb; replace HB := Aside0.mk (below_step (B1_ HB.out GE143.out) hb); (try clear hb); (try clear hb2); (try clear hk); (try clear hi)))
   go_ret
   exact ⟨er_, B1_ HB.out GE143.out⟩
 ·rw [if_neg c3] at H
  have c3b0 : decide (0 ≤ t144) = false := decide_eq_false c3
  clear c3
  obtain rfl := Option.some.inj H
  go_enter Try.func22, Try.ntmps22
  go_wp2_with (first | ((with_reducible refine gate_dst (N := 1) rfl ?_); refine box_event ?hg (N := 1) ?hd (cs := #[.int .i64 a0_0, .slice A0_1 l0_1.length c0_1, .slice A0_2 l0_2.length c0_2]) (t := 30) ?hr ?_; (case hd => rfl); (case hg => rfl); (case hr => first | (go_simp; done) | (go_simp; rfl)); intro gb143 hg w19 hbox hb; have BK143 := Aside0.mk (hbox); have GW143 := Aside0.mk ((by rw [hg]; exact (below_size (B0_ HB.out)) : w.heap.size ≤ gb143)); have GE143 := Aside0.mk ((by rw [hg]; exact (below_size (B0_ HB.out)) : w.heap.size ≤ gb143)); replace HB := Aside0.mk (below_step (B0_ HB.out) hb); clear hb hbox hg; obtain ⟨hcz20_0, hcz20_1, hcz20_2, hfz20_0, hfz20_1, hfz20_2⟩ := box3_ BK143.out) | ((with_reducible refine gate_callee (f := 49) rfl ?_); refine goesL_ (some 4) rfl rfl Try.func49 (by kernel_rfl) rfl #[.agg #[.int .i64 a0_0, .slice A0_1 l0_1.length c0_1, .slice A0_2 l0_2.length c0_2], .int .i64 30] rfl ma_ ?_; (with_reducible refine (spec_l3Left.calls k a0_0 _ _ l0_1 _ _ l0_2 30 t144 _ ?side1 ?side2 ?side3 ?side4 A2.out).mono ?_); (case side1 => exact C_ (Kd.C_below HR0_1.out HB.out)); (case side2 => exact HC0_1.out); (case side3 => exact C_ (Kd.C_below HR0_2.out HB.out)); (case side4 => exact HC0_2.out); rintro e w21 ⟨rfl, hb⟩; refine ⟨_, rfl, ?_⟩; replace BK143 := kb_ BK143 hb; replace HB := Aside0.mk (below_step (B1_ HB.out GE143.out) hb); (try clear hb); (try clear hb2); (try clear hk); (try clear hi)))
  go_ret
  exact ⟨er_, B1_ HB.out GE143.out⟩

/-! ### impl_AreAscending: function 88 -/
def impl_AreAscending.l0 : Nat → List ByteArray → Int → Option (Bool)
 | 0, _, _ => none
 | k + 1, x0, x3 => if x3 < (x0.length : Int) then (if 0 ≤ (wrap64 (x3 - 1)) then (if (wrap64 (x3 - 1)) < (x0.length : Int) then (if 0 ≤ x3 then (if ((Op.bytesLess ((rdOf ByteArray.empty x0 (wrap64 (x3 - 1))).toList) ((rdOf ByteArray.empty x0 x3).toList)) = true) then (impl_AreAscending.l0 k x0 (wrap64 (x3 + 1))) else (some false)) else (none)) else (none)) else (none)) else (some true)
def impl_AreAscending.f (k : Nat) (l0 : List ByteArray) : Option (Bool) := impl_AreAscending.l0 k l0 1
theorem impl_AreAscending.mono_l : ∀ k, (∀ y0 y1, LeO (impl_AreAscending.l0 k y0 y1) (impl_AreAscending.l0 (k + 1) y0 y1))
 | 0 => fun _ _ r h => by simp [impl_AreAscending.l0] at h
 | k + 1 => by
  have ih0 := impl_AreAscending.mono_l k
  ·intro y0 y1
   unfold impl_AreAscending.l0
   repeat' first
   | (with_reducible exact ih0 _ _)
   | (with_reducible exact LeO.refl _)
   | (with_reducible exact LeO.none _)
   | (with_reducible refine LeO.ite ?_ ?_)
   | (with_reducible refine LeO.bind ?_ (fun _ => ?_))
   | exact ih0 _ _
   | exact LeO.none _
   | refine LeO.ite ?_ ?_
   | refine LeO.bind ?_ (fun _ => ?_)
theorem impl_AreAscending.mono : ∀ a0 k, LeO (impl_AreAscending.f k a0) (impl_AreAscending.f (k + 1) a0) := by
 intro a0 k
 have ih0 := impl_AreAscending.mono_l k
 unfold impl_AreAscending.f
 repeat' first
   | (with_reducible exact ih0 _ _)
   | (with_reducible exact LeO.refl _)
   | (with_reducible exact LeO.none _)
   | (with_reducible refine LeO.ite ?_ ?_)
   | (with_reducible refine LeO.bind ?_ (fun _ => ?_))
   | exact ih0 _ _
   | exact LeO.none _
   | refine LeO.ite ?_ ?_
   | refine LeO.bind ?_ (fun _ => ?_)
set_option maxHeartbeats 8000000 in
set_option maxRecDepth 100000 in
theorem impl_AreAscending.calls (k : Nat) (A0 : Option Addr) (c0 : Nat) (l0 : List ByteArray) (r : Bool) (w : World) (hr0 : Kd.C Kd.string w A0 l0.length l0) (hc0 : l0.length ≤ c0) (h : impl_AreAscending.f k l0 = some r) :
  Calls Try.prog 88 #[.slice A0 l0.length c0] w fun e w' => e = .returned (.bool r) ∧ Drawn0 w w' := by
 have HR0 := Aside0.mk hr0
 have HC0 := Aside0.mk hc0
 clear hr0 hc0
 have H : (impl_AreAscending.l0 k l0 1) = some r := h
 clear h
 have H' := Aside0.mk H
 clear H
 go_enter Try.func88, Try.ntmps88
 go_wp2
 repeat (go_quiet (fail); try go_wp2)
 go_loopg [3] k (fun kq v3 w' => ∃ (x3_1 : Int), v3 = .int .i64 x3_1 ∧ Aside0 (impl_AreAscending.l0 kq l0 x3_1 = some r) ∧ Aside0 (kq ≤ k) ∧ Drawn0 w w')
 case atStart => exact ⟨(1), q_, H', ⟨Nat.le_refl _⟩, by repeat (first | exact Drawn0.refl _ | apply Drawn0.step)⟩
 case round =>
  clear H'
  obtain ⟨x3_1, rfl, HA, HK1, ⟨m1, rfl⟩⟩ := hrel
  cases gk with
  | zero => exact absurd HA.out (by simp [impl_AreAscending.l0])
  | succ k1 =>
   have H := HA.out
   clear HA
   simp only [impl_AreAscending.l0] at H
   by_cases c2 : x3_1 < (l0.length : Int)
   ·rw [if_pos c2] at H
    have c2b0 : decide (x3_1 < (l0.length : Int)) = true := decide_eq_true c2
    clear c2
    obtain ⟨ji3, hji3⟩ : ∃ j_ : Int, (wrap64 (x3_1 - 1)) = j_ := ⟨_, rfl⟩
    replace H : (if 0 ≤ (ji3) then (if (ji3) < (l0.length : Int) then (if 0 ≤ x3_1 then (if ((Op.bytesLess ((rdOf ByteArray.empty l0 (ji3)).toList) ((rdOf ByteArray.empty l0 x3_1).toList)) = true) then (impl_AreAscending.l0 k1 l0 (wrap64 (x3_1 + 1))) else (some false)) else (none)) else (none)) else (none)) = some r := by first | (rw [hji3] at H; exact H) | (simp only [hji3] at H ⊢; exact H)
    have hji3w : (IntKind.i64.wrap (x3_1 - 1)) = ji3 := (i64_w _).trans hji3
    by_cases c4 : 0 ≤ (ji3)
    ·rw [if_pos c4] at H
     have c4b0 : decide (0 ≤ (ji3)) = true := decide_eq_true c4
     clear c4
     by_cases c5 : (ji3) < (l0.length : Int)
     ·rw [if_pos c5] at H
      have c5b0 : decide ((ji3) < (l0.length : Int)) = true := decide_eq_true c5
      clear c5
      by_cases c6 : 0 ≤ x3_1
      ·rw [if_pos c6] at H
       have c6b0 : decide (0 ≤ x3_1) = true := decide_eq_true c6
       clear c6
       by_cases c7 : ((Op.bytesLess ((rdOf ByteArray.empty l0 (ji3)).toList) ((rdOf ByteArray.empty l0 x3_1).toList)) = true)
       ·rw [if_pos c7] at H
        have c7b0 : (Op.bytesLess ((rdOf ByteArray.empty l0 (ji3)).toList) ((rdOf ByteArray.empty l0 x3_1).toList)) = true := c7
        clear c7
        have H' := Aside0.mk H
        clear H
        have p147 : 0 ≤ ((ji3) : Int) := de_
        have q147 : (ji3) < (l0.length : Int) := de_
        obtain ⟨ad147, e147, hx147_0⟩ := Kd.at_string HR0.out (ji3) p147 q147
        cases e147
        replace p147 := eq_true p147
        replace q147 := eq_true q147
        have p148 : 0 ≤ (x3_1 : Int) := de_
        have q148 : x3_1 < (l0.length : Int) := de_
        obtain ⟨ad148, e148, hx148_0⟩ := Kd.at_string HR0.out x3_1 p148 q148
        obtain rfl : ad147 = ad148 := (by injection e148)
        replace p148 := eq_true p148
        replace q148 := eq_true q148
        go_wp2
        repeat (go_quiet (fail); try go_wp2)
        go_roundg k1
        case measure => have := HK1.out; omega
        case rel => exact ⟨(wrap64 (x3_1 + 1)), q_, H', ⟨by have := HK1.out; omega⟩, by repeat (first | exact Drawn0.refl _ | apply Drawn0.step)⟩
       ·rw [if_neg c7] at H
        have c7b0 : (Op.bytesLess ((rdOf ByteArray.empty l0 (ji3)).toList) ((rdOf ByteArray.empty l0 x3_1).toList)) = false := by simpa using c7
        clear c7
        obtain rfl := Option.some.inj H
        have p147 : 0 ≤ ((ji3) : Int) := de_
        have q147 : (ji3) < (l0.length : Int) := de_
        obtain ⟨ad147, e147, hx147_0⟩ := Kd.at_string HR0.out (ji3) p147 q147
        cases e147
        replace p147 := eq_true p147
        replace q147 := eq_true q147
        have p148 : 0 ≤ (x3_1 : Int) := de_
        have q148 : x3_1 < (l0.length : Int) := de_
        obtain ⟨ad148, e148, hx148_0⟩ := Kd.at_string HR0.out x3_1 p148 q148
        obtain rfl : ad147 = ad148 := (by injection e148)
        replace p148 := eq_true p148
        replace q148 := eq_true q148
        go_wp2
        repeat (go_quiet (fail); try go_wp2)
        go_ret
        exact ⟨by first | rfl | (simp; done) | (simp only [← hji3] <;> (first | rfl | simp)) | (simp [*]; done), by repeat (first | exact Drawn0.refl _ | apply Drawn0.step)⟩
      ·rw [if_neg c6] at H
       exact absurd H (by simp)
     ·rw [if_neg c5] at H
      exact absurd H (by simp)
    ·rw [if_neg c4] at H
     exact absurd H (by simp)
   ·rw [if_neg c2] at H
    have c2b0 : decide (x3_1 < (l0.length : Int)) = false := decide_eq_false c2
    clear c2
    obtain rfl := Option.some.inj H
    go_wp2
    repeat (go_quiet (fail); try go_wp2)
    go_ret
    exact ⟨by first | rfl | (simp; done) | (simp [*]; done), by repeat (first | exact Drawn0.refl _ | apply Drawn0.step)⟩

end Go.Proofs.Ytingaflikkeefaa.XB
