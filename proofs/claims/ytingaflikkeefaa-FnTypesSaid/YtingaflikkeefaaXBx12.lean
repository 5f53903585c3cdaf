-- Written by myprint.py, a program of this session, which runs the kit's printer with changes of its own. Lean checks it.
import Derived.Test.YtingaflikkeefaaXBx0
import Derived.Test.YtingaflikkeefaaXBx10
import Derived.Test.YtingaflikkeefaaXBx11
import Derived.Test.YtingaflikkeefaaSq
namespace Go.Proofs.Ytingaflikkeefaa.XB
open Go.RowKit Go.Proofs.YtingaflikkeefaaW.PrintWords Go.Proofs.YtingaflikkeefaaW.PrintLast Go.Proofs.YtingaflikkeefaaW.PrintMore Go.Proofs.Ytingaflikkeefaa.Sq
attribute [local go_sem] max2_int min2_int max_two min_two max_three min_three max_four min_four   -- for this text's walks alone
set_option linter.unusedVariables false
set_option linter.unusedSimpArgs false

/-! ### spec_l1PickInt: function 90 -/
def spec_l1PickInt.f (s0_0 : List Int) (s0_1 : Int) (s0_2 : Int) (l1 : List Int) : Option (Int × Int × Int) := (spec_l1Below.f s0_0 s0_1 s0_2 (l1.length : Int)).bind fun bt228 => (if 0 ≤ bt228.1 then (if bt228.1 < (l1.length : Int) then (some (rd l1 bt228.1, bt228.2.1, bt228.2.2)) else (none)) else (none))
set_option maxHeartbeats 8000000 in
set_option maxRecDepth 100000 in
theorem spec_l1PickInt.calls (g : Nat) (s0_0 : List Int) (s0_1 : Int) (s0_2 : Int) (A1 : Option Addr) (c1 : Nat) (l1 : List Int) (r1 : Int) (r2 : Int) (r3 : Int) (w0 w : World) (hI : IsS81 w0 w g s0_0 s0_1 s0_2) (hB : Below w0.heap.size w0 w) (hr1 : Kd.C (Kd.int .i64) w A1 l1.length l1) (hc1 : l1.length ≤ c1) (hf1 : ∀ ad, A1 = some ad → 0 < l1.length → ad.block ≠ g) (h : spec_l1PickInt.f s0_0 s0_1 s0_2 l1 = some (r1, r2, r3)) :
  Calls Try.prog 90 #[.pointer (some ⟨g, 0, none⟩), .slice A1 l1.length c1] w fun e w' => e = .returned (.int .i64 r1) ∧ IsS81 w0 w' g s0_0 r2 r3 ∧ Below w0.heap.size w0 w' ∧ KeepBut w w' g none := by
 have HR1 := Aside0.mk hr1
 have HC1 := Aside0.mk hc1
 clear hr1 hc1
 have HI0 := Aside0.mk hI
 have HK := Aside0.mk (KeepBut.refl w g none)
 have HL := Aside0.mk hB.size
 clear hI
 have HW0 := Aside0.mk hB.size
 have HB := Aside0.mk hB
 clear hB
 have H : ((spec_l1Below.f s0_0 s0_1 s0_2 (l1.length : Int)).bind fun bt228 => (if 0 ≤ bt228.1 then (if bt228.1 < (l1.length : Int) then (some (rd l1 bt228.1, bt228.2.1, bt228.2.2)) else (none)) else (none))) = some (r1, r2, r3) := h
 clear h
 replace H := Option.bind_eq_some_iff.mp H
 obtain ⟨⟨t228, t229, t230⟩, A30, H⟩ := H
 replace H : (if 0 ≤ t228 then (if t228 < (l1.length : Int) then (some (rd l1 t228, t229, t230)) else (none)) else (none)) = some (r1, r2, r3) := H
 have A3 := Aside0.mk A30
 clear A30
 by_cases c4 : 0 ≤ t228
 ·rw [if_pos c4] at H
  have c4b0 : decide (0 ≤ t228) = true := decide_eq_true c4
  clear c4
  by_cases c5 : t228 < (l1.length : Int)
  ·rw [if_pos c5] at H
   have c5b0 : decide (t228 < (l1.length : Int)) = true := decide_eq_true c5
   clear c5
   simp only [Option.some.injEq, Prod.mk.injEq] at H
   obtain ⟨rfl, rfl, rfl⟩ := H
   go_enter Try.func90, Try.ntmps90
   go_wp2_with (first | ((with_reducible refine gate_callee (f := 74) rfl ?_); refine goesL_ (some 9) rfl rfl Try.func74 (by kernel_rfl) rfl #[.pointer (some ⟨g, 0, none⟩), .int .i64 (l1.length : Int)] rfl ma_ ?_; (with_reducible refine (spec_l1Below.calls g s0_0 s0_1 s0_2 (l1.length : Int) t228 t229 t230 w0 _ ?side1 ?side2 A3.out).mono ?_); (case side1 => repeat (first | (with_reducible first | exact HI0.out | apply IsS81.alloc | apply IsS81.drewN | apply IsS81.drew | apply IsS81.set_1 | apply IsS81.set_2) | exact HI0.out)); (case side2 => repeat (first | (with_reducible first | exact HB.out | apply below_alloc | apply pw_below_drewN | apply below_drew1 | refine below_set ?_ (IsS81.ge HI0.out)) | exact HB.out)); rintro e w6 ⟨rfl, hi, hb, hk⟩; refine ⟨_, rfl, ?_⟩; replace HK := Aside0.mk (KeepBut.trans (G0_ HK.out) hk (.inl rfl)); replace HB := Aside0.mk (hb); replace HI0 := Aside0.mk (hi); (try clear hb); (try clear hb2); (try clear hk); (try clear hi); have p231 : 0 ≤ (t228 : Int) := de_; have q231 : t228 < (l1.length : Int) := de_; obtain ⟨ad231, e231, hx231_0⟩ := Kd.at_int HR1.out t228 p231 q231; cases e231; replace hx231_0 := keep_cell HK.out hx231_0 (by first | (rw [add_block]; exact hf1 _ rfl (by omega)) | exact hf1 _ rfl (by omega) | exact hf1 ad231 rfl (by omega)); replace p231 := eq_true p231; replace q231 := eq_true q231))
   go_ret
   exact ⟨er_, i81a0_ HI0.out, B1_ HB.out (IsS81.ge HI0.out), G0_ HK.out⟩
  ·rw [if_neg c5] at H
   exact absurd H (by simp)
 ·rw [if_neg c4] at H
  exact absurd H (by simp)

/-! ### spec_l3Labeled: function 91 -/
def spec_l3Labeled.l0 : Nat → List (S30) → Int → Int → List ByteArray → List (S30) → Option (Int × List ByteArray × (List (S30)))
 | 0, _, _, _, _, _ => none
 | k + 1, x2, x8, x240000, x240001, x240002 => if x8 < (x2.length : Int) then (if 0 ≤ x8 then ((spec_l3Copy.f k ((rd_T30 x2 x8).f0) ((rd_T30 x2 x8).f1) ((rd_T30 x2 x8).f2)).bind fun bt241 => (if x240002.length < 2513169434916 then (spec_l3Labeled.l0 k x2 (wrap64 (x8 + 1)) x240000 x240001 (x240002 ++ [(⟨bt241.1, bt241.2.1, bt241.2.2⟩ : S30)])) else (none))) else (none)) else (some (x240000, x240001, x240002))
def spec_l3Labeled.f (k : Nat) (a0 : Int) (l1 : List ByteArray) (l2 : List (S30)) : Option (Int × List ByteArray × (List (S30))) := (some (([] : List ByteArray) : List ByteArray)).bind fun y233 => (if y233.length + l1.length < 8796093022208 then (spec_l3Labeled.l0 k l2 0 a0 (y233 ++ l1) ([] : List (S30))) else (none))
theorem spec_l3Labeled.mono_l : ∀ k, (∀ y0 y1 y2 y3 y4, LeO (spec_l3Labeled.l0 k y0 y1 y2 y3 y4) (spec_l3Labeled.l0 (k + 1) y0 y1 y2 y3 y4))
 | 0 => fun _ _ _ _ _ r h => by simp [spec_l3Labeled.l0] at h
 | k + 1 => by
  have ih0 := spec_l3Labeled.mono_l k
  ·intro y0 y1 y2 y3 y4
   unfold spec_l3Labeled.l0
   repeat' first
   | (with_reducible exact ih0 _ _ _ _ _)
   | (with_reducible exact spec_l3Copy.mono _ _ _ _)
   | (with_reducible exact LeO.refl _)
   | (with_reducible exact LeO.none _)
   | (with_reducible refine LeO.ite ?_ ?_)
   | (with_reducible refine LeO.bind ?_ (fun _ => ?_))
   | exact ih0 _ _ _ _ _
   | exact spec_l3Copy.mono _ _ _ _
   | exact LeO.none _
   | refine LeO.ite ?_ ?_
   | refine LeO.bind ?_ (fun _ => ?_)
theorem spec_l3Labeled.mono : ∀ a0 a1 a2 k, LeO (spec_l3Labeled.f k a0 a1 a2) (spec_l3Labeled.f (k + 1) a0 a1 a2) := by
 intro a0 a1 a2 k
 have ih0 := spec_l3Labeled.mono_l k
 unfold spec_l3Labeled.f
 repeat' first
   | (with_reducible exact ih0 _ _ _ _ _)
   | (with_reducible exact spec_l3Copy.mono _ _ _ _)
   | (with_reducible exact LeO.refl _)
   | (with_reducible exact LeO.none _)
   | (with_reducible refine LeO.ite ?_ ?_)
   | (with_reducible refine LeO.bind ?_ (fun _ => ?_))
   | exact ih0 _ _ _ _ _
   | exact spec_l3Copy.mono _ _ _ _
   | exact LeO.none _
   | refine LeO.ite ?_ ?_
   | refine LeO.bind ?_ (fun _ => ?_)
def spec_l3Labeled.T5 : Bool × List (List Nat × List Nat) := (true, [([], []), ([0], [0]), ([], []), ([], []), ([2, 3], [2, 3]), ([4], [4]), ([5], [5]), ([6], [6]), ([1, 7, 6], [1, 7]), ([0, 1, 2, 3, 4, 5, 6, 7, 8], []), ([9, 8, 8, 0, 1, 2, 3, 4, 5, 6, 7, 8], [8, 9])])
def spec_l3Labeled.B5 : List Nat := [0, 1, 0, 0, 12, 28, 60, 124, 255, 511, 1023]
theorem spec_l3Labeled.tab5 : rtab .any (opsOf Try.f91 5) = spec_l3Labeled.T5 := by kernel_rfl
theorem spec_l3Labeled.bits5 : waitsOk spec_l3Labeled.T5.2 spec_l3Labeled.B5 = true := by kernel_rfl
set_option maxHeartbeats 8000000 in
set_option maxRecDepth 100000 in
theorem spec_l3Labeled.calls (k : Nat) (a0 : Int) (A1 : Option Addr) (c1 : Nat) (l1 : List ByteArray) (A2 : Option Addr) (c2 : Nat) (l2 : List (S30)) (r1 : Int) (r2 : List ByteArray) (r3 : List (S30)) (w : World) (hr1 : Kd.C Kd.string w A1 l1.length l1) (hc1 : l1.length ≤ c1) (hr2 : Kd.C k30 w A2 l2.length l2) (hc2 : l2.length ≤ c2) (h : spec_l3Labeled.f k a0 l1 l2 = some (r1, r2, r3)) :
  Calls Try.prog 91 #[.int .i64 a0, .slice A1 l1.length c1, .slice A2 l2.length c2] w fun e w' => ∃ v1_ v2_ : Value, e = .returned (.agg #[.int .i64 r1, v1_, v2_]) ∧ Kd.R Kd.string 9 w' w.heap.size (fun _ => True) v1_ r2 ∧ Kd.R k30 30 w' w.heap.size (fun k_ => some k_ ≠ (v1_ : Value).ownBlock) v2_ r3 ∧ Below w.heap.size w w' := by
 have hu30 := Try.underlying30
 have HR1 := Aside0.mk hr1
 have HC1 := Aside0.mk hc1
 clear hr1 hc1
 have HR2 := Aside0.mk hr2
 have HC2 := Aside0.mk hc2
 clear hr2 hc2
 have HB := Aside0.mk (Below.refl w.heap.size w)
 have H : ((some (([] : List ByteArray) : List ByteArray)).bind fun y233 => (if y233.length + l1.length < 8796093022208 then (spec_l3Labeled.l0 k l2 0 a0 (y233 ++ l1) ([] : List (S30))) else (none))) = some (r1, r2, r3) := h
 clear h
 obtain ⟨y233, hy233⟩ : ∃ y_ : List ByteArray, y_ = (([] : List ByteArray)) := ⟨_, rfl⟩
 replace H : (if y233.length + l1.length < 8796093022208 then (spec_l3Labeled.l0 k l2 0 a0 (y233 ++ l1) ([] : List (S30))) else (none)) = some (r1, r2, r3) := by first | (rw [hy233]; with_reducible exact H) | (have H2_ := (Option.bind_some _ _).symm.trans H; rw [hy233]; with_reducible exact H2_) | (have H2_ := (Option.bind_some _ _).symm.trans H; with_reducible exact H2_) | with_reducible exact H | (rw [hy233]; exact H) | exact H
 have Ny233 := Aside0.mk hy233
 clear hy233
 by_cases c4 : y233.length + l1.length < 8796093022208
 ·rw [if_pos c4] at H
  have LMc4 := Aside0.mk c4
  clear c4
  obtain ⟨y236, hy236⟩ : ∃ y_ : List ByteArray, y_ = (y233 ++ l1) := ⟨_, rfl⟩
  replace H : (spec_l3Labeled.l0 k l2 0 a0 y236 ([] : List (S30))) = some (r1, r2, r3) := by first | (rw [hy236]; with_reducible exact H) | (have H2_ := (Option.bind_some _ _).symm.trans H; rw [hy236]; with_reducible exact H2_) | (have H2_ := (Option.bind_some _ _).symm.trans H; with_reducible exact H2_) | with_reducible exact H | (rw [hy236]; exact H) | exact H
  have Ny236 := Aside0.mk hy236
  clear hy236
  have H' := Aside0.mk H
  clear H
  go_enter Try.func91, Try.ntmps91
  go_wp2_with (first | ((with_reducible refine gate_dst (N := 6) rfl ?_); refine box_event ?hg (N := 6) ?hd (cs := #[.int .i64 0, .slice none 0 0, .slice none 0 0]) (t := 30) ?hr ?_; (case hd => rfl); (case hg => rfl); (case hr => first | (go_simp; done) | (go_simp; rfl)); intro gb232 hg w5 hbox hb; have BK232 := Aside0.mk (hbox); have GW232 := Aside0.mk ((by rw [hg]; exact (below_size (B0_ HB.out)) : w.heap.size ≤ gb232)); have GE232 := Aside0.mk ((by rw [hg]; exact (below_size (B0_ HB.out)) : w.heap.size ≤ gb232)); replace HB := Aside0.mk (below_step (B0_ HB.out) hb); clear hb hbox hg) | ((with_reducible refine gate_dst (N := 10) rfl ?_); refine Kd.R_lit Kd.string _ 9 ?hg (N := 10) ?hd (xs := ([] : List ByteArray)) (inner := []) (ok := fun _ => True) (okp := fun _ => True) ?hr ?hp (fun _ hk => hk) trivial (Below.refl _ _) (Nat.le_refl _) (by simp) ?_; (case hd => rfl); (case hg => rfl); (case hr => first | (go_simp; done) | (go_simp; rfl)); (case hp => exact (Reps.none _ _)); intro v234 w6 ho7 hb hg_ hnew_; clear hg_ hnew_; (first | rw [← Ny233.out] at ho7 | (simp only [Int.reduceToNat] at ho7; rw [← Ny233.out] at ho7)); have HO235 := Aside0.mk (Kd.R_lower ho7 (below_size (B1_ HB.out GE232.out))); replace BK232 := kb_ BK232 hb; replace HB := Aside0.mk (below_step (B1_ HB.out GE232.out) hb); clear hb ho7) | ((with_reducible refine gate_builtin (b := .append) (xs := #[.tmp 10, .tmp 11]) rfl ?_); at_builtin; refine Kd.R_append_rows Kd.string (w0 := w) w.heap.size rfl (.tmp 10) (.tmp 11) 22 9 (.string ⟨#[]⟩) 16 rfl Try.underlying22 info9 rfl (by decide) (by omega) v234 y233 l1 _ _ _ (fun _ => True) (fun _ => False) rfl rfl ?aO ?aR (fun _ _ h => h) (fun _ h => h.elim) ?aF ?aB ?aS ?aL ?_; (case aR => repeat (first | exact (Kd.C_below HR1.out HB.out) | (with_reducible refine Kd.C_alloc ?_ _) | (with_reducible refine Kd.C_drewN ?_ _) | (with_reducible refine Kd.C_drew ?_))); (case aB => exact (B1_ HB.out GE232.out)); (case aF => exact (fun _ _ => trivial)); (case aO => exact (R_ HO235.out)); (case aS => exact (below_size (B1_ HB.out GE232.out))); (case aL => have := LMc4.out; omega); intro v237 w8 ho hb hg hat; rw [← Ny236.out] at ho; replace BK232 := Aside0.mk (blk_grown (g := gb232) (o := .cells #[.int .i64 0, .slice none 0 0, .slice none 0 0] 30 (0, 0)) (K_ BK232.out) hg (Kd.R_ne HO235.out BK232.out (by decide))); replace HB := Aside0.mk (hb); have HO238 := Aside0.mk (ho); clear HO235; clear ho hb hg hat; obtain ⟨Ao9, co9, eo9⟩ := Kd.R_slice HO238.out; subst eo9) | ((with_reducible refine gate_dst (N := 7) rfl ?_); refine box_event ?hg (N := 7) ?hd (cs := #[.int .i64 0, .slice none 0 0, .slice none 0 0]) (t := 30) ?hr ?_; (case hd => rfl); (case hg => rfl); (case hr => first | (go_simp; done) | (go_simp; rfl)); intro gb239 hg w10 hbox hb; replace HO238 := rb_ HO238 hb; have BK239 := Aside0.mk (hbox); have GW239 := Aside0.mk ((by rw [hg]; exact (below_size (B1_ HB.out GE232.out)) : w.heap.size ≤ gb239)); have GE239 := Aside0.mk ((by rw [hg]; exact (below_size (B1_ HB.out GE232.out)) : w.heap.size ≤ gb239)); replace HB := Aside0.mk (below_step (B1_ HB.out GE232.out) hb); have NB232_239 := Aside0.mk ((by rw [hg]; exact Nat.ne_of_lt (blk_lt (K_ BK232.out)) : gb232 ≠ gb239)); have NB239_232 := Aside0.mk ((by rw [hg]; exact Nat.ne_of_gt (blk_lt (K_ BK232.out)) : gb239 ≠ gb232)); replace BK232 := kb_ BK232 hb; clear hb hbox hg; have hnb11 := NB239_232.out; have hnc11 := NB232_239.out; obtain ⟨hcz12_0, hcz12_1, hcz12_2, hfz12_0, hfz12_1, hfz12_2⟩ := box3_ BK239.out))
  go_loopg [8] k (fun kq v8 w' => ∃ (x8_1 : Int) (x240002_1 : List (S30)) (u240002 : Value), v8 = .int .i64 x8_1 ∧ Aside0 (spec_l3Labeled.l0 kq l2 x8_1 a0 y236 x240002_1 = some (r1, r2, r3)) ∧ Aside0 (kq ≤ k) ∧ Aside0 (Kd.R Kd.string 9 w' w.heap.size (fun _ => True) (.slice Ao9 y236.length co9) y236) ∧ Aside0 (Kd.R k30 30 w' w.heap.size (fun k_ => some k_ ≠ ((.slice Ao9 y236.length co9) : Value).ownBlock ∧ k_ ≠ gb232 ∧ k_ ≠ gb239) u240002 x240002_1) ∧ Aside0 (w'.heap[gb232]? = some (.cells #[.int .i64 0, (.slice none 0 0), (.slice none 0 0)] 30 (0, 0))) ∧ Aside0 (w'.heap[gb239]? = some (.cells #[.int .i64 a0, (.slice Ao9 y236.length co9), u240002] 30 (0, 0))) ∧ Aside0 (Below w.heap.size w w'))
  case atStart => exact ⟨(0), (([] : List (S30))), (.slice none 0 0), q_, H', ⟨Nat.le_refl _⟩, ⟨by (with_reducible repeat (first | apply Kd.R_alloc | apply Kd.R_drewN | apply Kd.R_drew)); exact Kd.R_mono (Kd.R_far (p := ⟨gb239, 2, none⟩) (Kd.R_far (p := ⟨gb239, 1, none⟩) (Kd.R_far (p := ⟨gb239, 0, none⟩) (Kd.R_types HO238.out BK239.out (by decide)) (fun _ hk => hk.2) (.int .i64 a0)) (fun _ hk => hk.2) (.slice Ao9 y236.length co9)) (fun _ hk => hk.2) (.slice none 0 0)) (fun _ hk => trivial)⟩, ⟨by first | exact Kd.R_nil _ _ _ _ _ | exact Kd.N_nil _ _ _ _ _ | exact Kd.V_nil _ _ _ _ _ | exact Kd.Q_nil _ _ _ _ _ | exact Kd.S_nil _ _ _ _ _⟩, ⟨by (with_reducible repeat (first | refine blk_drewN ?_ _ | refine blk_drew ?_ | refine blk_alloc ?_ _)); refine blk_far ?_ NB232_239.out _; (with_reducible repeat (first | refine blk_drewN ?_ _ | refine blk_drew ?_ | refine blk_alloc ?_ _)); refine blk_far ?_ NB232_239.out _; (with_reducible repeat (first | refine blk_drewN ?_ _ | refine blk_drew ?_ | refine blk_alloc ?_ _)); refine blk_far ?_ NB232_239.out _; (with_reducible repeat (first | refine blk_drewN ?_ _ | refine blk_drew ?_ | refine blk_alloc ?_ _)); exact BK232.out⟩, ⟨by (with_reducible repeat (first | refine blk_drewN ?_ _ | refine blk_drew ?_ | refine blk_alloc ?_ _)); refine blk_put (cs := #[.int .i64 a0, .slice Ao9 y236.length co9, .slice none 0 0]) ?_ 2 _ rfl; (with_reducible repeat (first | refine blk_drewN ?_ _ | refine blk_drew ?_ | refine blk_alloc ?_ _)); refine blk_put (cs := #[.int .i64 a0, .slice none 0 0, .slice none 0 0]) ?_ 1 _ rfl; (with_reducible repeat (first | refine blk_drewN ?_ _ | refine blk_drew ?_ | refine blk_alloc ?_ _)); refine blk_put (cs := #[.int .i64 0, .slice none 0 0, .slice none 0 0]) ?_ 0 _ rfl; (with_reducible repeat (first | refine blk_drewN ?_ _ | refine blk_drew ?_ | refine blk_alloc ?_ _)); exact BK239.out⟩, ⟨B2_ HB.out GE232.out GE239.out⟩⟩
  case round =>
   clear H'
   try clear c1
   try clear c2
   try clear c4
   try clear hcz12_0
   try clear hcz12_1
   try clear hcz12_2
   try clear hfz12_0
   try clear hfz12_1
   try clear hfz12_2
   obtain ⟨x8_1, x240002_1, u240002, rfl, HA, HK1, HO_240001, HO_240002, BK232, BK239, HB⟩ := hrel
   cases gk with
   | zero => exact absurd HA.out (by simp [spec_l3Labeled.l0])
   | succ k1 =>
    have H := HA.out
    clear HA
    simp only [spec_l3Labeled.l0] at H
    by_cases c13 : x8_1 < (l2.length : Int)
    ·rw [if_pos c13] at H
     have c13b0 : decide (x8_1 < (l2.length : Int)) = true := decide_eq_true c13
     clear c13
     by_cases c14 : 0 ≤ x8_1
     ·rw [if_pos c14] at H
      have c14b0 : decide (0 ≤ x8_1) = true := decide_eq_true c14
      clear c14
      replace H := Option.bind_eq_some_iff.mp H
      obtain ⟨⟨t241, t242, t245⟩, A150, H⟩ := H
      replace H : (if x240002_1.length < 2513169434916 then (spec_l3Labeled.l0 k1 l2 (wrap64 (x8_1 + 1)) a0 y236 (x240002_1 ++ [(⟨t241, t242, t245⟩ : S30)])) else (none)) = some (r1, r2, r3) := H
      have A15 := Aside0.mk A150
      clear A150
      by_cases c16 : x240002_1.length < 2513169434916
      ·rw [if_pos c16] at H
       have LMc16 := Aside0.mk c16
       clear c16
       obtain ⟨y248, hy248⟩ : ∃ y_ : List (S30), y_ = (x240002_1 ++ [(⟨t241, t242, t245⟩ : S30)]) := ⟨_, rfl⟩
       replace H : (spec_l3Labeled.l0 k1 l2 (wrap64 (x8_1 + 1)) a0 y236 y248) = some (r1, r2, r3) := by first | (rw [hy248]; with_reducible exact H) | (have H2_ := (Option.bind_some _ _).symm.trans H; rw [hy248]; with_reducible exact H2_) | (have H2_ := (Option.bind_some _ _).symm.trans H; with_reducible exact H2_) | with_reducible exact H | (rw [hy248]; exact H) | exact H
       have Ny248 := Aside0.mk hy248
       clear hy248
       have H' := Aside0.mk H
       clear H
       try go_wp2
       replace HO_240001 := Aside0.mk (Kd.R_drew HO_240001.out)
       replace HO_240002 := Aside0.mk (Kd.R_drew HO_240002.out)
       replace BK232 := Aside0.mk (blk_drew BK232.out)
       replace BK239 := Aside0.mk (blk_drew BK239.out)
       replace HB := Aside0.mk (below_drew1 HB.out)
       have p240 : 0 ≤ (x8_1 : Int) := de_
       have q240 : x8_1 < (l2.length : Int) := de_
       obtain ⟨ad240, A240_1, c240_1, A240_2, c240_2, e240, hx240_0, hx240_1, hx240_2, hl240_1, hi240_1, hl240_2, hi240_2⟩ := at_T30 HR2.out x8_1 p240 q240
       have hw240_2 := hx240_2
       have hw240_1 := hx240_1
       have hw240_0 := hx240_0
       cases e240
       replace hx240_0 := (HB.out.cell (World.block_lt_of_cell? w _ hx240_0)).trans hx240_0
       replace hx240_1 := (HB.out.cell (World.block_lt_of_cell? w _ hx240_1)).trans hx240_1
       replace hx240_2 := (HB.out.cell (World.block_lt_of_cell? w _ hx240_2)).trans hx240_2
       have HR240_1 := Aside0.mk hi240_1
       have HC240_1 := Aside0.mk hl240_1
       clear hi240_1 hl240_1
       have HR240_2 := Aside0.mk hi240_2
       have HC240_2 := Aside0.mk hl240_2
       clear hi240_2 hl240_2
       replace p240 := eq_true p240
       replace q240 := eq_true q240
       refine start_ (n := 11) (S := fun w' => w'.cell? ⟨gb239, 0, none⟩ = some (.int .i64 a0) ∧ w'.cell? ⟨gb239, 1, none⟩ = some (.slice Ao9 y236.length co9) ∧ w'.cell? ⟨gb239, 2, none⟩ = some (u240002) ∧ w'.cell? (ad240.add ((x8_1).toNat * 3)) = some (.int .i64 ((rd_T30 l2 x8_1).f0)) ∧ w'.cell? ⟨(ad240.add ((x8_1).toNat * 3)).block, (ad240.add ((x8_1).toNat * 3)).off + 1, none⟩ = some (.slice A240_1 ((rd_T30 l2 x8_1).f1).length c240_1) ∧ w'.cell? ⟨(ad240.add ((x8_1).toNat * 3)).block, (ad240.add ((x8_1).toNat * 3)).off + 2, none⟩ = some (.slice A240_2 ((rd_T30 l2 x8_1).f2).length c240_2)) (ds := [10]) #[false, false, false, false, false, false, false, false, false, false, false] (by kernel_rfl) rfl rfl ⟨(blk_cell BK239.out 0).trans rfl, (blk_cell BK239.out 1).trans rfl, (blk_cell BK239.out 2).trans rfl, ((HB.out.cell (World.block_lt_of_cell? w _ hw240_0)).trans hw240_0), ((HB.out.cell (World.block_lt_of_cell? w _ hw240_1)).trans hw240_1), ((HB.out.cell (World.block_lt_of_cell? w _ hw240_2)).trans hw240_2)⟩ (fun hHeld => ?_); refine with_tabW spec_l3Labeled.tab5 spec_l3Labeled.bits5 (fun HT_ HW_ => ?_)
       generalize wr.drew = w17 at HO_240001 HO_240002 BK232 BK239 HB HR240_1 HR240_2 hx240_0 hx240_1 hx240_2 hHeld ⊢
       refine pu_ HT_ (i := 0) (N := some 20) (mk_ 11 1) rfl rfl ?_
       refine pu_ HT_ (i := 2) (N := some 22) (mk_ 11 5) rfl rfl ?_
       refine pu_ HT_ (i := 3) (N := some 23) (mk_ 11 13) rfl rfl ?_
       refine pu_ HT_ (i := 4) (N := some 24) (mk_ 11 29) rfl rfl ?_
       refine tk_ HT_ HW_ hHeld (i := 1) (N := some 21) (mk_ 11 31) rfl rfl ?_
       refine tk_ HT_ HW_ hHeld (i := 5) (N := some 25) (mk_ 11 63) rfl rfl ?_
       refine on_ HT_ (i := 6) (N := some 26) (mk_ 11 127) rfl rfl (fun K hK => ?_)
       refine goes_ Try.func57 (by kernel_rfl) rfl #[.agg #[.int .i64 ((rd_T30 l2 x8_1).f0), .slice A240_1 ((rd_T30 l2 x8_1).f1).length c240_1, .slice A240_2 ((rd_T30 l2 x8_1).f2).length c240_2]] (by rfl) rfl rfl ma_ ?_
       with_reducible refine (spec_l3Copy.calls k1 ((rd_T30 l2 x8_1).f0) _ _ ((rd_T30 l2 x8_1).f1) _ _ ((rd_T30 l2 x8_1).f2) t241 t242 t245 _ ?side1 ?side2 ?side3 ?side4 A15.out).mono ?_
       (case side1 => exact C_ (Kd.C_below HR240_1.out HB.out))
       (case side2 => exact HC240_1.out)
       (case side3 => exact C_ (Kd.C_below HR240_2.out HB.out))
       (case side4 => exact HC240_2.out)
       rintro e w18 ⟨v243, v246, rfl, ho0, ho1, hb⟩
       refine ⟨_, rfl, ?_⟩
       have HO244 := Aside0.mk (Kd.R_lower (Kd.R_new' ho0 (Kd.R_lt (R_ HO_240001.out))) (below_size (B2_ HB.out GE232.out GE239.out)))
       have HO247 := Aside0.mk (Kd.R_lower (Kd.R_newB (Kd.R_newB (Kd.R_new' (Kd.R_new' ho1 (Kd.R_lt (R_ HO_240001.out))) (Kd.R_lt (R_ HO_240002.out))) (g := gb232) (o := .cells #[.int .i64 0, .slice none 0 0, .slice none 0 0] 30 (0, 0)) (K_ BK232.out)) (g := gb239) (o := .cells #[.int .i64 a0, .slice Ao9 y236.length co9, u240002] 30 (0, 0)) (K_ BK239.out)) (below_size (B2_ HB.out GE232.out GE239.out)))
       replace HO_240001 := Aside0.mk (Kd.R_elder' (R_ HO_240001.out) (Kd.R_base ho0) hb)
       replace HO_240002 := Aside0.mk (Kd.R_mono (Kd.R_told (Kd.R_told (Kd.R_old (R_ HO_240002.out) hb) (Kd.R_base ho0)) (Kd.R_base ho1)) (fun _ h_ => h_.1))
       replace BK232 := kb_ BK232 hb
       replace BK239 := kb_ BK239 hb
       replace HB := Aside0.mk (below_step (B2_ HB.out GE232.out GE239.out) hb)
       (try clear hb)
       (try clear hb2)
       (try clear hk)
       (try clear hi)
       (try clear ho0)
       (try clear ho1)
       obtain ⟨Ao20, co20, eo20⟩ := Kd.R_slice HO244.out
       (first | subst eo20 | (injection eo20 with f1_ f2_ f3_; have f4_ := f1_.symm; have f5_ := f3_.symm; clear f1_ f2_ f3_; subst f4_; subst f5_))
       obtain ⟨Ao21, co21, eo21⟩ := Kd.R_slice HO247.out
       (first | subst eo21 | (injection eo21 with f1_ f2_ f3_; have f4_ := f1_.symm; have f5_ := f3_.symm; clear f1_ f2_ f3_; subst f4_; subst f5_))
       refine hK.out _ _ ⟨(blk_cell BK239.out 0).trans rfl, (blk_cell BK239.out 1).trans rfl, (blk_cell BK239.out 2).trans rfl, ((HB.out.cell (World.block_lt_of_cell? w _ hw240_0)).trans hw240_0), ((HB.out.cell (World.block_lt_of_cell? w _ hw240_1)).trans hw240_1), ((HB.out.cell (World.block_lt_of_cell? w _ hw240_2)).trans hw240_2)⟩ (fun hHeld => ?_)
       clear hK K
       refine nm_ (some 26) ?_
       refine on_ HT_ (i := 7) (N := some 27) (mk_ 11 255) rfl rfl (fun K hK => ?_)
       refine value_ (w1 := ?_) (v := ?_) (by rfl) rfl ?_ ?_
       rotate_left 2
       ·go_simp
        constructor
        ·rfl
        ·rfl
       refine hK.out _ _ ⟨(blk_cell (blk_alloc BK239.out _) 0).trans rfl, (blk_cell (blk_alloc BK239.out _) 1).trans rfl, (blk_cell (blk_alloc BK239.out _) 2).trans rfl, (World.cell?_alloc_lt _ _ _ (World.block_lt_of_cell? _ _ (((HB.out.cell (World.block_lt_of_cell? w _ hw240_0)).trans hw240_0)))).trans (((HB.out.cell (World.block_lt_of_cell? w _ hw240_0)).trans hw240_0)), (World.cell?_alloc_lt _ _ _ (World.block_lt_of_cell? _ _ (((HB.out.cell (World.block_lt_of_cell? w _ hw240_1)).trans hw240_1)))).trans (((HB.out.cell (World.block_lt_of_cell? w _ hw240_1)).trans hw240_1)), (World.cell?_alloc_lt _ _ _ (World.block_lt_of_cell? _ _ (((HB.out.cell (World.block_lt_of_cell? w _ hw240_2)).trans hw240_2)))).trans (((HB.out.cell (World.block_lt_of_cell? w _ hw240_2)).trans hw240_2))⟩ (fun hHeld => ?_)
       clear hK K
       refine nm_ (some 27) ?_
       refine on_ HT_ (i := 8) (N := some 28) (mk_ 11 511) rfl rfl (fun K hK => ?_)
       refine Kd.R_append_step k30 (w0 := w) w.heap.size (by rfl) (.tmp 21) (.tmp 27) 28 30 (.agg #[(.int .i64 0), (.slice none 0 0), (.slice none 0 0)]) 56 rfl Try.underlying28 info30 rfl (by decide) (by omega) u240002 x240002_1 (⟨t241, t242, t245⟩ : S30) [.int .i64 t241, .slice Ao20 t242.length co20, .slice Ao21 t245.length co21] (fun k_ => some k_ ≠ (.slice Ao9 y236.length co9 : Value).ownBlock ∧ k_ ≠ gb232 ∧ k_ ≠ gb239) (fun k_ => ((fun k_ => some k_ ≠ (.slice Ao9 y236.length co9 : Value).ownBlock ∧ k_ ≠ gb232 ∧ k_ ≠ gb239)) k_ ∧ some k_ ≠ (u240002 : Value).ownBlock) rfl rfl ?aP (fun _ hk => hk) ?aF ?aO ?aB ?aS ?aL ?_
       (case aP => exact k30_mkM _ _ _ (⟨t241, t242, t245⟩ : S30) (Kd.R_mono (Kd.R_types (Kd.R_types (Kd.R_apart' (HO244.out) (Kd.R_typed HO_240002.out) (by decide)) BK232.out (by decide)) BK239.out (by decide)) (fun k_ hk => ⟨⟨hk.1.1.1.2, ⟨hk.1.2, hk.2⟩⟩, hk.1.1.2⟩)) (Kd.R_mono (HO247.out) (fun k_ hk => ⟨⟨hk.1.1.1.2, ⟨hk.1.2, hk.2⟩⟩, hk.1.1.2⟩)))
       (case aB => exact (B2_ HB.out GE232.out GE239.out))
       (case aF => exact (fun k_ hk => ⟨Kd.fresh' (Kd.R_lt (R_ HO_240001.out)) k_ hk, Kd.freshB (K_ BK232.out) k_ hk, Kd.freshB (K_ BK239.out) k_ hk⟩))
       (case aO => exact (by (with_reducible repeat (first | apply Kd.R_alloc | apply Kd.R_drewN | apply Kd.R_drew)); exact Kd.R_mono HO_240002.out (fun _ hk => ⟨hk.1.1.1, ⟨hk.1.1.2.1, hk.1.1.2.2⟩⟩)))
       (case aS => exact (below_size (B2_ HB.out GE232.out GE239.out)))
       (case aL => have := LMc16.out; omega)
       intro v249 w19 ho hb hg hat
       rw [← Ny248.out] at ho
       replace HO_240001 := Aside0.mk (Kd.R_over' (R_ HO_240001.out) (Kd.R_typed (R_ HO_240002.out)) (by decide) hg)
       replace BK232 := Aside0.mk (blk_grown (g := gb232) (o := .cells #[.int .i64 0, .slice none 0 0, .slice none 0 0] 30 (0, 0)) (K_ BK232.out) hg (Kd.R_away HO_240002.out (fun _ hk => hk.1.1.2.1)))
       replace BK239 := Aside0.mk (blk_grown (g := gb239) (o := .cells #[.int .i64 a0, .slice Ao9 y236.length co9, u240002] 30 (0, 0)) (K_ BK239.out) hg (Kd.R_away HO_240002.out (fun _ hk => hk.1.1.2.2)))
       replace HB := Aside0.mk (hb)
       have HO250 := Aside0.mk (ho)
       clear HO_240002 HO244 HO247
       clear ho hb hg hat
       obtain ⟨Ao22, co22, eo22⟩ := Kd.R_slice HO250.out
       (first | subst eo22 | (injection eo22 with f1_ f2_ f3_; have f4_ := f1_.symm; have f5_ := f3_.symm; clear f1_ f2_ f3_; subst f4_; subst f5_))
       refine hK.out _ _ ⟨(blk_cell BK239.out 0).trans rfl, (blk_cell BK239.out 1).trans rfl, (blk_cell BK239.out 2).trans rfl, ((HB.out.cell (World.block_lt_of_cell? w _ hw240_0)).trans hw240_0), ((HB.out.cell (World.block_lt_of_cell? w _ hw240_1)).trans hw240_1), ((HB.out.cell (World.block_lt_of_cell? w _ hw240_2)).trans hw240_2)⟩ (fun hHeld => ?_)
       clear hK K
       refine nm_ (some 28) ?_
       refine pu_ HT_ (i := 9) (N := some 29) (mk_ 11 1023) rfl rfl ?_
       refine last_ (i := 10) (N := none) #[true, true, true, true, true, true, true, true, true, true, true] rfl rfl (one_of HT_.out (by kernel_rfl)) (by decide) (fun K hK => ?_)
       have hs23 : w19.cell? ⟨gb239, 2, none⟩ = some (u240002) := (blk_cell BK239.out 2).trans rfl
       have hfs23 := blk_frozen BK239.out 2
       have hns23_0 := NB232_239.out
       have hms23_0 := NB239_232.out
       refine skip_ (w1 := ?_) (by rfl) rfl ?_ ?_
       rotate_left
       ·go_simp
        rfl
       refine hK.out _ _ ?_
       clear hK K
       refine done_ (done_of HT_.out (by kernel_rfl)) ?_
       try go_wp2
       go_roundg k1
       case measure => have := HK1.out; omega
       case rel => exact ⟨(wrap64 (x8_1 + 1)), (y248), (.slice Ao22 y248.length co22), q_, H', ⟨by have := HK1.out; omega⟩, ⟨by (with_reducible repeat (first | apply Kd.R_alloc | apply Kd.R_drewN | apply Kd.R_drew)); exact Kd.R_mono (Kd.R_far (p := ⟨gb239, 2, none⟩) (Kd.R_types HO_240001.out BK239.out (by decide)) (fun _ hk => hk.2) (.slice Ao22 y248.length co22)) (fun _ hk => trivial)⟩, ⟨by (with_reducible repeat (first | apply Kd.R_alloc | apply Kd.R_drewN | apply Kd.R_drew)); exact Kd.R_mono (Kd.R_far (p := ⟨gb239, 2, none⟩) (Kd.R_mono HO250.out (fun k_ hk => (⟨hk, hk.2.2⟩ : _ ∧ k_ ≠ gb239))) (fun _ hk => hk.2) (.slice Ao22 y248.length co22)) (fun _ hk => ⟨hk.1.1, ⟨hk.1.2.1, hk.1.2.2⟩⟩)⟩, ⟨by (with_reducible repeat (first | refine blk_drewN ?_ _ | refine blk_drew ?_ | refine blk_alloc ?_ _)); refine blk_far ?_ NB232_239.out _; (with_reducible repeat (first | refine blk_drewN ?_ _ | refine blk_drew ?_ | refine blk_alloc ?_ _)); exact BK232.out⟩, ⟨by (with_reducible repeat (first | refine blk_drewN ?_ _ | refine blk_drew ?_ | refine blk_alloc ?_ _)); refine blk_put (cs := #[.int .i64 a0, .slice Ao9 y236.length co9, u240002]) ?_ 2 _ rfl; (with_reducible repeat (first | refine blk_drewN ?_ _ | refine blk_drew ?_ | refine blk_alloc ?_ _)); exact BK239.out⟩, ⟨B2_ HB.out GE232.out GE239.out⟩⟩
      ·rw [if_neg c16] at H
       exact absurd H (by simp)
     ·rw [if_neg c14] at H
      exact absurd H (by simp)
    ·rw [if_neg c13] at H
     have c13b0 : decide (x8_1 < (l2.length : Int)) = false := decide_eq_false c13
     clear c13
     simp only [Option.some.injEq, Prod.mk.injEq] at H
     obtain ⟨rfl, rfl, rfl⟩ := H
     have hnb24 := NB239_232.out
     have hnc24 := NB232_239.out
     obtain ⟨hcz25_0, hcz25_1, hcz25_2, hfz25_0, hfz25_1, hfz25_2⟩ := box3_ BK239.out
     obtain ⟨hcz26_0, hcz26_1, hcz26_2, hfz26_0, hfz26_1, hfz26_2⟩ := box3_ BK232.out
     obtain ⟨Ao27, co27, eo27⟩ := Kd.R_slice HO_240002.out
     subst eo27
     go_wp2
     refine bodyPost_ret (results_cell_row rfl _ _ gb232 30 #[.int .i64 a0, .slice Ao9 y236.length co9, .slice Ao27 x240002_1.length co27] (0, 0) _ rfl (by (with_reducible repeat (first | refine blk_drewN ?_ _ | refine blk_drew ?_ | refine blk_alloc ?_ _)); refine blk_put (cs := #[.int .i64 a0, .slice Ao9 y236.length co9, .slice none 0 0]) ?_ 2 _ rfl; (with_reducible repeat (first | refine blk_drewN ?_ _ | refine blk_drew ?_ | refine blk_alloc ?_ _)); refine blk_put (cs := #[.int .i64 a0, .slice none 0 0, .slice none 0 0]) ?_ 1 _ rfl; (with_reducible repeat (first | refine blk_drewN ?_ _ | refine blk_drew ?_ | refine blk_alloc ?_ _)); refine blk_put (cs := #[.int .i64 0, .slice none 0 0, .slice none 0 0]) ?_ 0 _ rfl; (with_reducible repeat (first | refine blk_drewN ?_ _ | refine blk_drew ?_ | refine blk_alloc ?_ _)); exact BK232.out) Try.underlying30 rfl (by kernel_rfl)) rfl ?_
     exact ⟨_, _, er_, by (with_reducible repeat (first | apply Kd.R_alloc | apply Kd.R_drewN | apply Kd.R_drew)); exact Kd.R_mono (Kd.R_far (p := ⟨gb232, 2, none⟩) (Kd.R_far (p := ⟨gb232, 1, none⟩) (Kd.R_far (p := ⟨gb232, 0, none⟩) (Kd.R_types HO_240001.out BK232.out (by decide)) (fun _ hk => hk.2) (.int .i64 a0)) (fun _ hk => hk.2) (.slice Ao9 y236.length co9)) (fun _ hk => hk.2) (.slice Ao27 x240002_1.length co27)) (fun _ hk => trivial), by (with_reducible repeat (first | apply Kd.R_alloc | apply Kd.R_drewN | apply Kd.R_drew)); exact Kd.R_mono (Kd.R_far (p := ⟨gb232, 2, none⟩) (Kd.R_far (p := ⟨gb232, 1, none⟩) (Kd.R_far (p := ⟨gb232, 0, none⟩) (Kd.R_mono HO_240002.out (fun k_ hk => (⟨hk, hk.2.1⟩ : _ ∧ k_ ≠ gb232))) (fun _ hk => hk.2) (.int .i64 a0)) (fun _ hk => hk.2) (.slice Ao9 y236.length co9)) (fun _ hk => hk.2) (.slice Ao27 x240002_1.length co27)) (fun _ hk => hk.1.1), B2_ HB.out GE232.out GE239.out⟩
 ·rw [if_neg c4] at H
  exact absurd H (by simp)

end Go.Proofs.Ytingaflikkeefaa.XB
