-- Written by myprint.py, a program of this session, which runs the kit's printer with changes of its own. Lean checks it.
import Derived.Test.YtingaflikkeefaaXBx0
import Derived.Test.YtingaflikkeefaaXBx10
import Derived.Test.YtingaflikkeefaaSq
namespace Go.Proofs.Ytingaflikkeefaa.XB
open Go.RowKit Go.Proofs.YtingaflikkeefaaW.PrintWords Go.Proofs.YtingaflikkeefaaW.PrintLast Go.Proofs.YtingaflikkeefaaW.PrintMore Go.Proofs.Ytingaflikkeefaa.Sq
attribute [local go_sem] max2_int min2_int max_two min_two max_three min_three max_four min_four   -- for this text's walks alone
set_option linter.unusedVariables false
set_option linter.unusedSimpArgs false

/-! ### spec_l1Once: function 56 -/
def spec_l1Once.f (s0_0 : List Int) (s0_1 : Int) (s0_2 : Int) (a1 : Int) : Option (Bool × Int × Int) := (spec_l1Below.f s0_0 s0_1 s0_2 a1).bind fun bt193 => (some ((bt193.1 == 0), bt193.2.1, bt193.2.2))
set_option maxHeartbeats 8000000 in
set_option maxRecDepth 100000 in
theorem spec_l1Once.calls (g : Nat) (s0_0 : List Int) (s0_1 : Int) (s0_2 : Int) (a1 : Int) (r1 : Bool) (r2 : Int) (r3 : Int) (w0 w : World) (hI : IsS81 w0 w g s0_0 s0_1 s0_2) (hB : Below w0.heap.size w0 w) (h : spec_l1Once.f s0_0 s0_1 s0_2 a1 = some (r1, r2, r3)) :
  Calls Try.prog 56 #[.pointer (some ⟨g, 0, none⟩), .int .i64 a1] w fun e w' => e = .returned (.bool r1) ∧ IsS81 w0 w' g s0_0 r2 r3 ∧ Below w0.heap.size w0 w' ∧ KeepBut w w' g none := by
 have HI0 := Aside0.mk hI
 have HK := Aside0.mk (KeepBut.refl w g none)
 have HL := Aside0.mk hB.size
 clear hI
 have HW0 := Aside0.mk hB.size
 have HB := Aside0.mk hB
 clear hB
 have H : ((spec_l1Below.f s0_0 s0_1 s0_2 a1).bind fun bt193 => (some ((bt193.1 == 0), bt193.2.1, bt193.2.2))) = some (r1, r2, r3) := h
 clear h
 replace H := Option.bind_eq_some_iff.mp H
 obtain ⟨⟨t193, t194, t195⟩, A30, H⟩ := H
 replace H : (some ((t193 == 0), t194, t195)) = some (r1, r2, r3) := H
 have A3 := Aside0.mk A30
 clear A30
 simp only [Option.some.injEq, Prod.mk.injEq] at H
 obtain ⟨rfl, rfl, rfl⟩ := H
 go_enter Try.func56, Try.ntmps56
 go_wp2_with (first | ((with_reducible refine gate_callee (f := 74) rfl ?_); refine goesL_ (some 7) rfl rfl Try.func74 (by kernel_rfl) rfl #[.pointer (some ⟨g, 0, none⟩), .int .i64 a1] rfl ma_ ?_; (with_reducible refine (spec_l1Below.calls g s0_0 s0_1 s0_2 a1 t193 t194 t195 w0 _ ?side1 ?side2 A3.out).mono ?_); (case side1 => repeat (first | (with_reducible first | exact HI0.out | apply IsS81.alloc | apply IsS81.drewN | apply IsS81.drew | apply IsS81.set_1 | apply IsS81.set_2) | exact HI0.out)); (case side2 => repeat (first | (with_reducible first | exact HB.out | apply below_alloc | apply pw_below_drewN | apply below_drew1 | refine below_set ?_ (IsS81.ge HI0.out)) | exact HB.out)); rintro e w4 ⟨rfl, hi, hb, hk⟩; refine ⟨_, rfl, ?_⟩; replace HK := Aside0.mk (KeepBut.trans (G0_ HK.out) hk (.inl rfl)); replace HB := Aside0.mk (hb); replace HI0 := Aside0.mk (hi); (try clear hb); (try clear hb2); (try clear hk); (try clear hi)))
 go_ret
 exact ⟨er_, i81a0_ HI0.out, B1_ HB.out (IsS81.ge HI0.out), G0_ HK.out⟩

/-! ### spec_l3Copy: function 57 -/
mutual
def spec_l3Copy.l0 : Nat → Int → Int → List ByteArray → List (S30) → Int → List ByteArray → List (S30) → Option (Int × List ByteArray × (List (S30)))
 | 0, _, _, _, _, _, _, _ => none
 | k + 1, x4, x197000, x197001, x197002, x205000, x205001, x205002 => if x4 < (x197002.length : Int) then (if 0 ≤ x4 then ((spec_l3Copy.f k ((rd_T30 x197002 x4).f0) ((rd_T30 x197002 x4).f1) ((rd_T30 x197002 x4).f2)).bind fun bt206 => (if x205002.length < 2513169434916 then (spec_l3Copy.l0 k (wrap64 (x4 + 1)) x197000 x197001 x197002 x205000 x205001 (x205002 ++ [(⟨bt206.1, bt206.2.1, bt206.2.2⟩ : S30)])) else (none))) else (none)) else (some (x205000, x205001, x205002))
def spec_l3Copy.f : Nat → Int → List ByteArray → List (S30) → Option (Int × List ByteArray × (List (S30)))
 | 0, _, _, _ => none
 | k + 1, a0_0, l0_1, l0_2 => (some (([] : List ByteArray) : List ByteArray)).bind fun y198 => (if y198.length + l0_1.length < 8796093022208 then (spec_l3Copy.l0 k 0 a0_0 l0_1 l0_2 a0_0 (y198 ++ l0_1) ([] : List (S30))) else (none))
end
theorem spec_l3Copy.mono_l : ∀ k, (∀ y0 y1 y2, LeO (spec_l3Copy.f k y0 y1 y2) (spec_l3Copy.f (k + 1) y0 y1 y2)) ∧ (∀ y0 y1 y2 y3 y4 y5 y6, LeO (spec_l3Copy.l0 k y0 y1 y2 y3 y4 y5 y6) (spec_l3Copy.l0 (k + 1) y0 y1 y2 y3 y4 y5 y6))
 | 0 => ⟨fun _ _ _ r h => by simp [spec_l3Copy.f] at h, fun _ _ _ _ _ _ _ r h => by simp [spec_l3Copy.l0] at h⟩
 | k + 1 => by
  obtain ⟨ih0, ih1⟩ := spec_l3Copy.mono_l k
  refine ⟨?_, ?_⟩
  ·intro y0 y1 y2
   unfold spec_l3Copy.f
   repeat' first
   | (with_reducible exact ih0 _ _ _)
   | (with_reducible exact ih1 _ _ _ _ _ _ _)
   | (with_reducible exact LeO.refl _)
   | (with_reducible exact LeO.none _)
   | (with_reducible refine LeO.ite ?_ ?_)
   | (with_reducible refine LeO.bind ?_ (fun _ => ?_))
   | exact ih0 _ _ _
   | exact ih1 _ _ _ _ _ _ _
   | exact LeO.none _
   | refine LeO.ite ?_ ?_
   | refine LeO.bind ?_ (fun _ => ?_)
  ·intro y0 y1 y2 y3 y4 y5 y6
   unfold spec_l3Copy.l0
   repeat' first
   | (with_reducible exact ih0 _ _ _)
   | (with_reducible exact ih1 _ _ _ _ _ _ _)
   | (with_reducible exact LeO.refl _)
   | (with_reducible exact LeO.none _)
   | (with_reducible refine LeO.ite ?_ ?_)
   | (with_reducible refine LeO.bind ?_ (fun _ => ?_))
   | exact ih0 _ _ _
   | exact ih1 _ _ _ _ _ _ _
   | exact LeO.none _
   | refine LeO.ite ?_ ?_
   | refine LeO.bind ?_ (fun _ => ?_)
theorem spec_l3Copy.mono : ∀ a0 a1 a2 k, LeO (spec_l3Copy.f k a0 a1 a2) (spec_l3Copy.f (k + 1) a0 a1 a2) := by
 intro a0 a1 a2 k
 obtain ⟨ih0, ih1⟩ := spec_l3Copy.mono_l k
 exact ih0 a0 a1 a2
def spec_l3Copy.T1 : Bool × List (List Nat × List Nat) := (true, [([], []), ([0], [0]), ([], []), ([], []), ([3], [3]), ([2, 4], [2, 4]), ([1, 5], [1, 5]), ([], []), ([7, 6, 5, 0, 1, 2, 3, 4, 5, 6, 7], [6, 7])])
def spec_l3Copy.B1 : List Nat := [0, 1, 0, 0, 8, 28, 63, 0, 255]
theorem spec_l3Copy.tab1 : rtab .any (opsOf Try.f57 1) = spec_l3Copy.T1 := by kernel_rfl
theorem spec_l3Copy.bits1 : waitsOk spec_l3Copy.T1.2 spec_l3Copy.B1 = true := by kernel_rfl
def spec_l3Copy.T5 : Bool × List (List Nat × List Nat) := (true, [([], []), ([0], [0]), ([], []), ([2], [2]), ([], []), ([3, 4], [3, 4]), ([5], [5]), ([6], [6]), ([7], [7]), ([1, 8, 7], [1, 8]), ([0, 1, 2, 3, 4, 5, 6, 7, 8, 9], []), ([10, 9, 9, 0, 1, 2, 3, 4, 5, 6, 7, 8, 9], [9, 10])])
def spec_l3Copy.B5 : List Nat := [0, 1, 0, 4, 0, 28, 60, 124, 252, 511, 1023, 2047]
theorem spec_l3Copy.tab5 : rtab .any (opsOf Try.f57 5) = spec_l3Copy.T5 := by kernel_rfl
theorem spec_l3Copy.bits5 : waitsOk spec_l3Copy.T5.2 spec_l3Copy.B5 = true := by kernel_rfl
set_option maxHeartbeats 8000000 in
set_option maxRecDepth 100000 in
theorem spec_l3Copy.calls (k : Nat) : ∀ (a0_0 : Int) (A0_1 : Option Addr) (c0_1 : Nat) (l0_1 : List ByteArray) (A0_2 : Option Addr) (c0_2 : Nat) (l0_2 : List (S30)) (r1 : Int) (r2 : List ByteArray) (r3 : List (S30)) (w : World) (hr0_1 : Kd.C Kd.string w A0_1 l0_1.length l0_1) (hc0_1 : l0_1.length ≤ c0_1) (hr0_2 : Kd.C k30 w A0_2 l0_2.length l0_2) (hc0_2 : l0_2.length ≤ c0_2) (h : spec_l3Copy.f k a0_0 l0_1 l0_2 = some (r1, r2, r3)),
  Calls Try.prog 57 #[.agg #[.int .i64 a0_0, .slice A0_1 l0_1.length c0_1, .slice A0_2 l0_2.length c0_2]] w fun e w' => ∃ v1_ v2_ : Value, e = .returned (.agg #[.int .i64 r1, v1_, v2_]) ∧ Kd.R Kd.string 9 w' w.heap.size (fun _ => True) v1_ r2 ∧ Kd.R k30 30 w' w.heap.size (fun k_ => some k_ ≠ (v1_ : Value).ownBlock) v2_ r3 ∧ Below w.heap.size w w' := by
 induction k using Nat.strongRecOn with
 | _ k ih =>
 intro a0_0 A0_1 c0_1 l0_1 A0_2 c0_2 l0_2 r1 r2 r3 w hr0_1 hc0_1 hr0_2 hc0_2 h
 cases k with
 | zero => exact absurd h (by simp [spec_l3Copy.f])
 | succ k =>
 simp only [spec_l3Copy.f] at h
 have hu30 := Try.underlying30
 have HR0_1 := Aside0.mk hr0_1
 have HC0_1 := Aside0.mk hc0_1
 clear hr0_1 hc0_1
 have HR0_2 := Aside0.mk hr0_2
 have HC0_2 := Aside0.mk hc0_2
 clear hr0_2 hc0_2
 have HB := Aside0.mk (Below.refl w.heap.size w)
 have H : ((some (([] : List ByteArray) : List ByteArray)).bind fun y198 => (if y198.length + l0_1.length < 8796093022208 then (spec_l3Copy.l0 k 0 a0_0 l0_1 l0_2 a0_0 (y198 ++ l0_1) ([] : List (S30))) else (none))) = some (r1, r2, r3) := h
 clear h
 obtain ⟨y198, hy198⟩ : ∃ y_ : List ByteArray, y_ = (([] : List ByteArray)) := ⟨_, rfl⟩
 replace H : (if y198.length + l0_1.length < 8796093022208 then (spec_l3Copy.l0 k 0 a0_0 l0_1 l0_2 a0_0 (y198 ++ l0_1) ([] : List (S30))) else (none)) = some (r1, r2, r3) := by first | (rw [hy198]; with_reducible exact H) | (have H2_ := (Option.bind_some _ _).symm.trans H; rw [hy198]; with_reducible exact H2_) | (have H2_ := (Option.bind_some _ _).symm.trans H; with_reducible exact H2_) | with_reducible exact H | (rw [hy198]; exact H) | exact H
 have Ny198 := Aside0.mk hy198
 clear hy198
 by_cases c2 : y198.length + l0_1.length < 8796093022208
 ·rw [if_pos c2] at H
  have LMc2 := Aside0.mk c2
  clear c2
  obtain ⟨y201, hy201⟩ : ∃ y_ : List ByteArray, y_ = (y198 ++ l0_1) := ⟨_, rfl⟩
  replace H : (spec_l3Copy.l0 k 0 a0_0 l0_1 l0_2 a0_0 y201 ([] : List (S30))) = some (r1, r2, r3) := by first | (rw [hy201]; with_reducible exact H) | (have H2_ := (Option.bind_some _ _).symm.trans H; rw [hy201]; with_reducible exact H2_) | (have H2_ := (Option.bind_some _ _).symm.trans H; with_reducible exact H2_) | with_reducible exact H | (rw [hy201]; exact H) | exact H
  have Ny201 := Aside0.mk hy201
  clear hy201
  have H' := Aside0.mk H
  clear H
  go_enter Try.func57, Try.ntmps57
  try go_wp2_with (first | ((with_reducible refine gate_dst (N := 1) rfl ?_); refine box_event ?hg (N := 1) ?hd (cs := #[.int .i64 a0_0, .slice A0_1 l0_1.length c0_1, .slice A0_2 l0_2.length c0_2]) (t := 30) ?hr ?_; (case hd => rfl); (case hg => rfl); (case hr => first | (go_simp; done) | (go_simp; rfl)); intro gb196 hg w3 hbox hb; have BK196 := Aside0.mk (hbox); have GW196 := Aside0.mk ((by rw [hg]; exact (below_size (B0_ HB.out)) : w.heap.size ≤ gb196)); have GE196 := Aside0.mk ((by rw [hg]; exact (below_size (B0_ HB.out)) : w.heap.size ≤ gb196)); replace HB := Aside0.mk (below_step (B0_ HB.out) hb); clear hb hbox hg) | ((with_reducible refine gate_dst (N := 2) rfl ?_); refine box_event ?hg (N := 2) ?hd (cs := #[.int .i64 0, .slice none 0 0, .slice none 0 0]) (t := 30) ?hr ?_; (case hd => rfl); (case hg => rfl); (case hr => first | (go_simp; done) | (go_simp; rfl)); intro gb197 hg w4 hbox hb; have BK197 := Aside0.mk (hbox); have GW197 := Aside0.mk ((by rw [hg]; exact (below_size (B1_ HB.out GE196.out)) : w.heap.size ≤ gb197)); have GE197 := Aside0.mk ((by rw [hg]; exact (below_size (B1_ HB.out GE196.out)) : w.heap.size ≤ gb197)); replace HB := Aside0.mk (below_step (B1_ HB.out GE196.out) hb); have NB196_197 := Aside0.mk ((by rw [hg]; exact Nat.ne_of_lt (blk_lt (K_ BK196.out)) : gb196 ≠ gb197)); have NB197_196 := Aside0.mk ((by rw [hg]; exact Nat.ne_of_gt (blk_lt (K_ BK196.out)) : gb197 ≠ gb196)); replace BK196 := kb_ BK196 hb; clear hb hbox hg))
  replace BK196 := Aside0.mk (blk_drew BK196.out)
  replace BK197 := Aside0.mk (blk_drew BK197.out)
  replace HB := Aside0.mk (below_drew1 HB.out)
  refine start_ (n := 9) (S := fun w' => w'.cell? ⟨gb196, 0, none⟩ = some (.int .i64 a0_0) ∧ w'.cell? ⟨gb196, 1, none⟩ = some (.slice A0_1 l0_1.length c0_1) ∧ w'.cell? ⟨gb196, 2, none⟩ = some (.slice A0_2 l0_2.length c0_2)) (ds := []) #[false, false, false, false, false, false, false, false, false] (by kernel_rfl) rfl rfl ⟨(blk_cell BK196.out 0).trans rfl, (blk_cell BK196.out 1).trans rfl, (blk_cell BK196.out 2).trans rfl⟩ (fun hHeld => ?_); refine with_tabW spec_l3Copy.tab1 spec_l3Copy.bits1 (fun HT_ HW_ => ?_)
  generalize w4.drew = w5 at BK196 BK197 HB hHeld ⊢
  refine pu_ HT_ (i := 0) (N := some 5) (mk_ 9 1) rfl rfl ?_
  refine pu_ HT_ (i := 3) (N := some 8) (mk_ 9 9) rfl rfl ?_
  refine tk_ HT_ HW_ hHeld (i := 1) (N := some 6) (mk_ 9 11) rfl rfl ?_
  refine tk_ HT_ HW_ hHeld (i := 4) (N := some 9) (mk_ 9 27) rfl rfl ?_
  refine join_ (σ := Value × Value × Nat) 1 #[true, true, true, true, true, true, true, true, false] (fun s_ => [(7, s_.1), (10, s_.2.1), (3, .pointer (some ⟨s_.2.2, 0, none⟩)), (11, .agg #[.int .i64 a0_0, s_.2.1, .slice none 0 0])]) (fun s_ w' => (w'.cell? ⟨gb196, 0, none⟩ = some (.int .i64 a0_0) ∧ w'.cell? ⟨gb196, 1, none⟩ = some (.slice A0_1 l0_1.length c0_1) ∧ w'.cell? ⟨gb196, 2, none⟩ = some (.slice A0_2 l0_2.length c0_2)) ∧ (Kd.R Kd.string 9 w' w.heap.size (fun _ => True) s_.2.1 y201) ∧ (w'.heap[gb196]? = some (.cells #[.int .i64 a0_0, .slice A0_1 l0_1.length c0_1, .slice A0_2 l0_2.length c0_2] 30 (0, 0))) ∧ (w'.heap[gb197]? = some (.cells #[.int .i64 0, .slice none 0 0, .slice none 0 0] 30 (0, 0))) ∧ (w'.heap[s_.2.2]? = some (.cells #[.int .i64 0, .slice none 0 0, .slice none 0 0] 30 (0, 0))) ∧ (w.heap.size ≤ s_.2.2) ∧ (w.heap.size ≤ s_.2.2) ∧ (gb196 ≠ s_.2.2) ∧ (s_.2.2 ≠ gb196) ∧ (gb197 ≠ s_.2.2) ∧ (s_.2.2 ≠ gb197) ∧ (Below w.heap.size w w')) ?_ ?_
  rotate_left
  ·intro hCont
   refine two_ (i := 2) (j := 7) (Ni := some 7) (Nj := some 3) #[true, true, true, true, true, false, false, false, false] #[true, true, false, true, true, false, false, true, false] rfl rfl rfl rfl (two_of HT_.out (by kernel_rfl)) (by decide) (by decide) (fun K hK => ?_) (fun K hK => ?_)
   ·skip
    refine Kd.R_lit_step Kd.string _ 9 ?hg (N := 7) ?hd (xs := ([] : List ByteArray)) (inner := []) (ok := fun _ => True) (okp := fun _ => True) ?hr ?hp (fun _ hk => hk) trivial (Below.refl _ _) (Nat.le_refl _) (by simp) ?_; (case hd => rfl); (case hg => rfl); (case hr => first | (go_simp; done) | (go_simp; rfl)); (case hp => exact (Reps.none _ _))
    intro v199 w6 ho7 hb hg_ hnew_
    clear hg_ hnew_
    (first | rw [← Ny198.out] at ho7 | (simp only [Int.reduceToNat] at ho7; rw [← Ny198.out] at ho7))
    have HO200 := Aside0.mk (Kd.R_lower ho7 (below_size (B2_ HB.out GE196.out GE197.out)))
    replace BK196 := kb_ BK196 hb
    replace BK197 := kb_ BK197 hb
    replace HB := Aside0.mk (below_step (B2_ HB.out GE196.out GE197.out) hb)
    clear hb ho7
    refine hK.out _ _ ⟨(blk_cell BK196.out 0).trans rfl, (blk_cell BK196.out 1).trans rfl, (blk_cell BK196.out 2).trans rfl⟩ (fun hHeld => ?_)
    clear hK K
    refine nm_ (some 7) ?_
    refine two_ (i := 5) (j := 7) (Ni := some 10) (Nj := some 3) #[true, true, true, true, true, true, false, false, false] #[true, true, true, true, true, false, false, true, false] rfl rfl rfl rfl (two_of HT_.out (by kernel_rfl)) (by decide) (by decide) (fun K hK => ?_) (fun K hK => ?_)
    ·skip
     refine Kd.R_append_rows_step Kd.string (w0 := w) w.heap.size (by rfl) (.tmp 7) (.tmp 9) 22 9 (.string ⟨#[]⟩) 16 rfl Try.underlying22 info9 rfl (by decide) (by omega) v199 y198 l0_1 _ _ _ (fun _ => True) (fun _ => False) rfl rfl ?aO ?aR (fun _ _ h => h) (fun _ h => h.elim) ?aF ?aB ?aS ?aL ?_
     (case aR => repeat (first | exact (Kd.C_below HR0_1.out HB.out) | (with_reducible refine Kd.C_alloc ?_ _) | (with_reducible refine Kd.C_drewN ?_ _) | (with_reducible refine Kd.C_drew ?_)))
     (case aB => exact (B2_ HB.out GE196.out GE197.out))
     (case aF => exact (fun _ _ => trivial))
     (case aO => exact (R_ HO200.out))
     (case aS => exact (below_size (B2_ HB.out GE196.out GE197.out)))
     (case aL => have := LMc2.out; omega)
     intro v202 w8 ho hb hg hat
     rw [← Ny201.out] at ho
     replace BK196 := Aside0.mk (blk_grown (g := gb196) (o := .cells #[.int .i64 a0_0, .slice A0_1 l0_1.length c0_1, .slice A0_2 l0_2.length c0_2] 30 (0, 0)) (K_ BK196.out) hg (Kd.R_ne HO200.out BK196.out (by decide)))
     replace BK197 := Aside0.mk (blk_grown (g := gb197) (o := .cells #[.int .i64 0, .slice none 0 0, .slice none 0 0] 30 (0, 0)) (K_ BK197.out) hg (Kd.R_ne HO200.out BK197.out (by decide)))
     replace HB := Aside0.mk (hb)
     have HO203 := Aside0.mk (ho)
     clear HO200
     clear ho hb hg hat
     obtain ⟨Ao9, co9, eo9⟩ := Kd.R_slice HO203.out
     (first | subst eo9 | (injection eo9 with f1_ f2_ f3_; have f4_ := f1_.symm; have f5_ := f3_.symm; clear f1_ f2_ f3_; subst f4_; subst f5_))
     refine hK.out _ _ ⟨(blk_cell BK196.out 0).trans rfl, (blk_cell BK196.out 1).trans rfl, (blk_cell BK196.out 2).trans rfl⟩ (fun hHeld => ?_)
     clear hK K
     refine nm_ (some 10) ?_
     refine pu_ HT_ (i := 6) (N := some 11) (mk_ 9 127) rfl rfl ?_
     refine on_ HT_ (i := 7) (N := some 3) (mk_ 9 255) rfl rfl (fun K hK => ?_)
     refine box_step ?hg (N := 3) ?hd (cs := #[.int .i64 0, .slice none 0 0, .slice none 0 0]) (t := 30) ?hr ?_; (case hd => rfl); (case hg => rfl); (case hr => first | (go_simp; done) | (go_simp; rfl))
     intro gb204 hg w10 hbox hb
     replace HO203 := rb_ HO203 hb
     have BK204 := Aside0.mk (hbox)
     have GW204 := Aside0.mk ((by rw [hg]; exact (below_size (B2_ HB.out GE196.out GE197.out)) : w.heap.size ≤ gb204))
     have GE204 := Aside0.mk ((by rw [hg]; exact (below_size (B2_ HB.out GE196.out GE197.out)) : w.heap.size ≤ gb204))
     replace HB := Aside0.mk (below_step (B2_ HB.out GE196.out GE197.out) hb)
     have NB196_204 := Aside0.mk ((by rw [hg]; exact Nat.ne_of_lt (blk_lt (K_ BK196.out)) : gb196 ≠ gb204))
     have NB204_196 := Aside0.mk ((by rw [hg]; exact Nat.ne_of_gt (blk_lt (K_ BK196.out)) : gb204 ≠ gb196))
     replace BK196 := kb_ BK196 hb
     have NB197_204 := Aside0.mk ((by rw [hg]; exact Nat.ne_of_lt (blk_lt (K_ BK197.out)) : gb197 ≠ gb204))
     have NB204_197 := Aside0.mk ((by rw [hg]; exact Nat.ne_of_gt (blk_lt (K_ BK197.out)) : gb204 ≠ gb197))
     replace BK197 := kb_ BK197 hb
     clear hb hbox hg
     refine hK.out _ _ ⟨(blk_cell BK196.out 0).trans rfl, (blk_cell BK196.out 1).trans rfl, (blk_cell BK196.out 2).trans rfl⟩ (fun hHeld => ?_)
     clear hK K
     refine nm_ (some 3) ?_
     exact norm_ (by simp only [putAll, Act.put, List.setIfInBounds_toArray, List.set_cons_zero, List.set_cons_succ]) (hCont (v199, .slice Ao9 y201.length co9, gb204) _ ⟨hHeld, (R_ HO203.out), (K_ BK196.out), (K_ BK197.out), (K_ BK204.out), GW204.out, GE204.out, NB196_204.out, NB204_196.out, NB197_204.out, NB204_197.out, (B3_ HB.out GE196.out GE197.out GE204.out)⟩)
    ·skip
     refine box_step ?hg (N := 3) ?hd (cs := #[.int .i64 0, .slice none 0 0, .slice none 0 0]) (t := 30) ?hr ?_; (case hd => rfl); (case hg => rfl); (case hr => first | (go_simp; done) | (go_simp; rfl))
     intro gb204 hg w8 hbox hb
     replace HO200 := rb_ HO200 hb
     have BK204 := Aside0.mk (hbox)
     have GW204 := Aside0.mk ((by rw [hg]; exact (below_size (B2_ HB.out GE196.out GE197.out)) : w.heap.size ≤ gb204))
     have GE204 := Aside0.mk ((by rw [hg]; exact (below_size (B2_ HB.out GE196.out GE197.out)) : w.heap.size ≤ gb204))
     replace HB := Aside0.mk (below_step (B2_ HB.out GE196.out GE197.out) hb)
     have NB196_204 := Aside0.mk ((by rw [hg]; exact Nat.ne_of_lt (blk_lt (K_ BK196.out)) : gb196 ≠ gb204))
     have NB204_196 := Aside0.mk ((by rw [hg]; exact Nat.ne_of_gt (blk_lt (K_ BK196.out)) : gb204 ≠ gb196))
     replace BK196 := kb_ BK196 hb
     have NB197_204 := Aside0.mk ((by rw [hg]; exact Nat.ne_of_lt (blk_lt (K_ BK197.out)) : gb197 ≠ gb204))
     have NB204_197 := Aside0.mk ((by rw [hg]; exact Nat.ne_of_gt (blk_lt (K_ BK197.out)) : gb204 ≠ gb197))
     replace BK197 := kb_ BK197 hb
     clear hb hbox hg
     refine hK.out _ _ ⟨(blk_cell BK196.out 0).trans rfl, (blk_cell BK196.out 1).trans rfl, (blk_cell BK196.out 2).trans rfl⟩ (fun hHeld => ?_)
     clear hK K
     refine nm_ (some 3) ?_
     refine on_ HT_ (i := 5) (N := some 10) (mk_ 9 191) rfl rfl (fun K hK => ?_)
     refine Kd.R_append_rows_step Kd.string (w0 := w) w.heap.size (by rfl) (.tmp 7) (.tmp 9) 22 9 (.string ⟨#[]⟩) 16 rfl Try.underlying22 info9 rfl (by decide) (by omega) v199 y198 l0_1 _ _ _ (fun _ => True) (fun _ => False) rfl rfl ?aO ?aR (fun _ _ h => h) (fun _ h => h.elim) ?aF ?aB ?aS ?aL ?_
     (case aR => repeat (first | exact (Kd.C_below HR0_1.out HB.out) | (with_reducible refine Kd.C_alloc ?_ _) | (with_reducible refine Kd.C_drewN ?_ _) | (with_reducible refine Kd.C_drew ?_)))
     (case aB => exact (B3_ HB.out GE196.out GE197.out GE204.out))
     (case aF => exact (fun _ _ => trivial))
     (case aO => exact (R_ HO200.out))
     (case aS => exact (below_size (B3_ HB.out GE196.out GE197.out GE204.out)))
     (case aL => have := LMc2.out; omega)
     intro v202 w9 ho hb hg hat
     rw [← Ny201.out] at ho
     replace BK196 := Aside0.mk (blk_grown (g := gb196) (o := .cells #[.int .i64 a0_0, .slice A0_1 l0_1.length c0_1, .slice A0_2 l0_2.length c0_2] 30 (0, 0)) (K_ BK196.out) hg (Kd.R_ne HO200.out BK196.out (by decide)))
     replace BK197 := Aside0.mk (blk_grown (g := gb197) (o := .cells #[.int .i64 0, .slice none 0 0, .slice none 0 0] 30 (0, 0)) (K_ BK197.out) hg (Kd.R_ne HO200.out BK197.out (by decide)))
     replace BK204 := Aside0.mk (blk_grown (g := gb204) (o := .cells #[.int .i64 0, .slice none 0 0, .slice none 0 0] 30 (0, 0)) (K_ BK204.out) hg (Kd.R_ne HO200.out BK204.out (by decide)))
     replace HB := Aside0.mk (hb)
     have HO203 := Aside0.mk (ho)
     clear HO200
     clear ho hb hg hat
     obtain ⟨Ao10, co10, eo10⟩ := Kd.R_slice HO203.out
     (first | subst eo10 | (injection eo10 with f1_ f2_ f3_; have f4_ := f1_.symm; have f5_ := f3_.symm; clear f1_ f2_ f3_; subst f4_; subst f5_))
     refine hK.out _ _ ⟨(blk_cell BK196.out 0).trans rfl, (blk_cell BK196.out 1).trans rfl, (blk_cell BK196.out 2).trans rfl⟩ (fun hHeld => ?_)
     clear hK K
     refine nm_ (some 10) ?_
     refine pu_ HT_ (i := 6) (N := some 11) (mk_ 9 255) rfl rfl ?_
     exact norm_ (by simp only [putAll, Act.put, List.setIfInBounds_toArray, List.set_cons_zero, List.set_cons_succ]) (hCont (v199, .slice Ao10 y201.length co10, gb204) _ ⟨hHeld, (R_ HO203.out), (K_ BK196.out), (K_ BK197.out), (K_ BK204.out), GW204.out, GE204.out, NB196_204.out, NB204_196.out, NB197_204.out, NB204_197.out, (B3_ HB.out GE196.out GE197.out GE204.out)⟩)
   ·skip
    refine box_step ?hg (N := 3) ?hd (cs := #[.int .i64 0, .slice none 0 0, .slice none 0 0]) (t := 30) ?hr ?_; (case hd => rfl); (case hg => rfl); (case hr => first | (go_simp; done) | (go_simp; rfl))
    intro gb204 hg w6 hbox hb
    have BK204 := Aside0.mk (hbox)
    have GW204 := Aside0.mk ((by rw [hg]; exact (below_size (B2_ HB.out GE196.out GE197.out)) : w.heap.size ≤ gb204))
    have GE204 := Aside0.mk ((by rw [hg]; exact (below_size (B2_ HB.out GE196.out GE197.out)) : w.heap.size ≤ gb204))
    replace HB := Aside0.mk (below_step (B2_ HB.out GE196.out GE197.out) hb)
    have NB196_204 := Aside0.mk ((by rw [hg]; exact Nat.ne_of_lt (blk_lt (K_ BK196.out)) : gb196 ≠ gb204))
    have NB204_196 := Aside0.mk ((by rw [hg]; exact Nat.ne_of_gt (blk_lt (K_ BK196.out)) : gb204 ≠ gb196))
    replace BK196 := kb_ BK196 hb
    have NB197_204 := Aside0.mk ((by rw [hg]; exact Nat.ne_of_lt (blk_lt (K_ BK197.out)) : gb197 ≠ gb204))
    have NB204_197 := Aside0.mk ((by rw [hg]; exact Nat.ne_of_gt (blk_lt (K_ BK197.out)) : gb204 ≠ gb197))
    replace BK197 := kb_ BK197 hb
    clear hb hbox hg
    refine hK.out _ _ ⟨(blk_cell BK196.out 0).trans rfl, (blk_cell BK196.out 1).trans rfl, (blk_cell BK196.out 2).trans rfl⟩ (fun hHeld => ?_)
    clear hK K
    refine nm_ (some 3) ?_
    refine on_ HT_ (i := 2) (N := some 7) (mk_ 9 159) rfl rfl (fun K hK => ?_)
    refine Kd.R_lit_step Kd.string _ 9 ?hg (N := 7) ?hd (xs := ([] : List ByteArray)) (inner := []) (ok := fun _ => True) (okp := fun _ => True) ?hr ?hp (fun _ hk => hk) trivial (Below.refl _ _) (Nat.le_refl _) (by simp) ?_; (case hd => rfl); (case hg => rfl); (case hr => first | (go_simp; done) | (go_simp; rfl)); (case hp => exact (Reps.none _ _))
    intro v199 w7 ho8 hb hg_ hnew_
    clear hg_ hnew_
    (first | rw [← Ny198.out] at ho8 | (simp only [Int.reduceToNat] at ho8; rw [← Ny198.out] at ho8))
    have HO200 := Aside0.mk (Kd.R_lower ho8 (below_size (B3_ HB.out GE196.out GE197.out GE204.out)))
    replace BK196 := kb_ BK196 hb
    replace BK197 := kb_ BK197 hb
    replace BK204 := kb_ BK204 hb
    replace HB := Aside0.mk (below_step (B3_ HB.out GE196.out GE197.out GE204.out) hb)
    clear hb ho8
    refine hK.out _ _ ⟨(blk_cell BK196.out 0).trans rfl, (blk_cell BK196.out 1).trans rfl, (blk_cell BK196.out 2).trans rfl⟩ (fun hHeld => ?_)
    clear hK K
    refine nm_ (some 7) ?_
    refine on_ HT_ (i := 5) (N := some 10) (mk_ 9 191) rfl rfl (fun K hK => ?_)
    refine Kd.R_append_rows_step Kd.string (w0 := w) w.heap.size (by rfl) (.tmp 7) (.tmp 9) 22 9 (.string ⟨#[]⟩) 16 rfl Try.underlying22 info9 rfl (by decide) (by omega) v199 y198 l0_1 _ _ _ (fun _ => True) (fun _ => False) rfl rfl ?aO ?aR (fun _ _ h => h) (fun _ h => h.elim) ?aF ?aB ?aS ?aL ?_
    (case aR => repeat (first | exact (Kd.C_below HR0_1.out HB.out) | (with_reducible refine Kd.C_alloc ?_ _) | (with_reducible refine Kd.C_drewN ?_ _) | (with_reducible refine Kd.C_drew ?_)))
    (case aB => exact (B3_ HB.out GE196.out GE197.out GE204.out))
    (case aF => exact (fun _ _ => trivial))
    (case aO => exact (R_ HO200.out))
    (case aS => exact (below_size (B3_ HB.out GE196.out GE197.out GE204.out)))
    (case aL => have := LMc2.out; omega)
    intro v202 w9 ho hb hg hat
    rw [← Ny201.out] at ho
    replace BK196 := Aside0.mk (blk_grown (g := gb196) (o := .cells #[.int .i64 a0_0, .slice A0_1 l0_1.length c0_1, .slice A0_2 l0_2.length c0_2] 30 (0, 0)) (K_ BK196.out) hg (Kd.R_ne HO200.out BK196.out (by decide)))
    replace BK197 := Aside0.mk (blk_grown (g := gb197) (o := .cells #[.int .i64 0, .slice none 0 0, .slice none 0 0] 30 (0, 0)) (K_ BK197.out) hg (Kd.R_ne HO200.out BK197.out (by decide)))
    replace BK204 := Aside0.mk (blk_grown (g := gb204) (o := .cells #[.int .i64 0, .slice none 0 0, .slice none 0 0] 30 (0, 0)) (K_ BK204.out) hg (Kd.R_ne HO200.out BK204.out (by decide)))
    replace HB := Aside0.mk (hb)
    have HO203 := Aside0.mk (ho)
    clear HO200
    clear ho hb hg hat
    obtain ⟨Ao10, co10, eo10⟩ := Kd.R_slice HO203.out
    (first | subst eo10 | (injection eo10 with f1_ f2_ f3_; have f4_ := f1_.symm; have f5_ := f3_.symm; clear f1_ f2_ f3_; subst f4_; subst f5_))
    refine hK.out _ _ ⟨(blk_cell BK196.out 0).trans rfl, (blk_cell BK196.out 1).trans rfl, (blk_cell BK196.out 2).trans rfl⟩ (fun hHeld => ?_)
    clear hK K
    refine nm_ (some 10) ?_
    refine pu_ HT_ (i := 6) (N := some 11) (mk_ 9 255) rfl rfl ?_
    exact norm_ (by simp only [putAll, Act.put, List.setIfInBounds_toArray, List.set_cons_zero, List.set_cons_succ]) (hCont (v199, .slice Ao10 y201.length co10, gb204) _ ⟨hHeld, (R_ HO203.out), (K_ BK196.out), (K_ BK197.out), (K_ BK204.out), GW204.out, GE204.out, NB196_204.out, NB204_196.out, NB197_204.out, NB204_197.out, (B3_ HB.out GE196.out GE197.out GE204.out)⟩)
  rintro ⟨v199, v202, gb204⟩ w11 ⟨hS_, h0_, h1_, h2_, h3_, h4_, h5_, h6_, h7_, h8_, h9_, h10_⟩
  have n0_ : Aside0 (Kd.R Kd.string 9 w11 w.heap.size (fun _ => True) v202 y201) := ⟨h0_⟩
  have n1_ : Aside0 (w11.heap[gb196]? = some (.cells #[.int .i64 a0_0, .slice A0_1 l0_1.length c0_1, .slice A0_2 l0_2.length c0_2] 30 (0, 0))) := ⟨h1_⟩
  have n2_ : Aside0 (w11.heap[gb197]? = some (.cells #[.int .i64 0, .slice none 0 0, .slice none 0 0] 30 (0, 0))) := ⟨h2_⟩
  have n3_ : Aside0 (w11.heap[gb204]? = some (.cells #[.int .i64 0, .slice none 0 0, .slice none 0 0] 30 (0, 0))) := ⟨h3_⟩
  have n4_ : Aside0 (w.heap.size ≤ gb204) := ⟨h4_⟩
  have n5_ : Aside0 (w.heap.size ≤ gb204) := ⟨h5_⟩
  have n6_ : Aside0 (gb196 ≠ gb204) := ⟨h6_⟩
  have n7_ : Aside0 (gb204 ≠ gb196) := ⟨h7_⟩
  have n8_ : Aside0 (gb197 ≠ gb204) := ⟨h8_⟩
  have n9_ : Aside0 (gb204 ≠ gb197) := ⟨h9_⟩
  have n10_ : Aside0 (Below w.heap.size w w11) := ⟨h10_⟩
  clear BK196
  clear BK197
  clear HB
  clear h0_ h1_ h2_ h3_ h4_ h5_ h6_ h7_ h8_ h9_ h10_
  have HO203 := n0_
  have BK196 := n1_
  have BK197 := n2_
  have BK204 := n3_
  have GW204 := n4_
  have GE204 := n5_
  have NB196_204 := n6_
  have NB204_196 := n7_
  have NB197_204 := n8_
  have NB204_197 := n9_
  have HB := n10_
  clear n0_ n1_ n2_ n3_ n4_ n5_ n6_ n7_ n8_ n9_ n10_
  have hHeld : w11.cell? ⟨gb196, 0, none⟩ = some (.int .i64 a0_0) ∧ w11.cell? ⟨gb196, 1, none⟩ = some (.slice A0_1 l0_1.length c0_1) ∧ w11.cell? ⟨gb196, 2, none⟩ = some (.slice A0_2 l0_2.length c0_2) := hS_
  obtain ⟨Ao12, co12, eo12⟩ := Kd.R_slice HO203.out
  (first | subst eo12 | (injection eo12 with f1_ f2_ f3_; have f4_ := f1_.symm; have f5_ := f3_.symm; clear f1_ f2_ f3_; subst f4_; subst f5_))
  refine norm_ (a' := ?_) ?_ ?_
  rotate_left
  ·simp only [putAll, Act.put, List.setIfInBounds_toArray, List.set_cons_zero, List.set_cons_succ]
   rfl
  refine on_ HT_ (i := 8) (N := none) (mk_ 9 511) rfl rfl (fun K hK => ?_)
  have hs13 : w11.cell? ⟨gb204, 0, none⟩ = some (.int .i64 0) := (blk_cell BK204.out 0).trans rfl
  have hfs13 := blk_frozen BK204.out 0
  have hns13_0 := NB196_204.out
  have hns13_1 := NB197_204.out
  have hms13_0 := NB204_196.out
  have hms13_1 := NB204_197.out
  have hs14 : w11.cell? ⟨gb204, 1, none⟩ = some (.slice none 0 0) := (blk_cell BK204.out 1).trans rfl
  have hfs14 := blk_frozen BK204.out 1
  have hns14_0 := NB196_204.out
  have hns14_1 := NB197_204.out
  have hms14_0 := NB204_196.out
  have hms14_1 := NB204_197.out
  have hs15 : w11.cell? ⟨gb204, 2, none⟩ = some (.slice none 0 0) := (blk_cell BK204.out 2).trans rfl
  have hfs15 := blk_frozen BK204.out 2
  have hns15_0 := NB196_204.out
  have hns15_1 := NB197_204.out
  have hms15_0 := NB204_196.out
  have hms15_1 := NB204_197.out
  refine skip_ (w1 := ?_) (by rfl) rfl ?_ ?_
  rotate_left
  ·go_simp
   rfl
  refine hK.out _ _ ⟨((cell_far (p := ⟨gb204, _, none⟩) NB196_204.out _).trans (((cell_far (p := ⟨gb204, _, none⟩) NB196_204.out _).trans (((cell_far (p := ⟨gb204, _, none⟩) NB196_204.out _).trans (hHeld.1)))))), ((cell_far (p := ⟨gb204, _, none⟩) NB196_204.out _).trans (((cell_far (p := ⟨gb204, _, none⟩) NB196_204.out _).trans (((cell_far (p := ⟨gb204, _, none⟩) NB196_204.out _).trans (hHeld.2.1)))))), ((cell_far (p := ⟨gb204, _, none⟩) NB196_204.out _).trans (((cell_far (p := ⟨gb204, _, none⟩) NB196_204.out _).trans (((cell_far (p := ⟨gb204, _, none⟩) NB196_204.out _).trans (hHeld.2.2))))))⟩ (fun hHeld => ?_)
  clear hK K
  refine done_ (done_of HT_.out (by kernel_rfl)) ?_
  try go_wp2
  go_loopg [4] k (fun kq v4 w' => ∃ (x4_1 : Int) (x205002_1 : List (S30)) (u205002 : Value), v4 = .int .i64 x4_1 ∧ Aside0 (spec_l3Copy.l0 kq x4_1 a0_0 l0_1 l0_2 a0_0 y201 x205002_1 = some (r1, r2, r3)) ∧ Aside0 (kq ≤ k) ∧ Aside0 (Kd.R Kd.string 9 w' w.heap.size (fun _ => True) (.slice Ao12 y201.length co12) y201) ∧ Aside0 (Kd.R k30 30 w' w.heap.size (fun k_ => some k_ ≠ ((.slice Ao12 y201.length co12) : Value).ownBlock ∧ k_ ≠ gb196 ∧ k_ ≠ gb197 ∧ k_ ≠ gb204) u205002 x205002_1) ∧ Aside0 (w'.heap[gb196]? = some (.cells #[.int .i64 a0_0, (.slice A0_1 l0_1.length c0_1), (.slice A0_2 l0_2.length c0_2)] 30 (0, 0))) ∧ Aside0 (w'.heap[gb197]? = some (.cells #[.int .i64 0, (.slice none 0 0), (.slice none 0 0)] 30 (0, 0))) ∧ Aside0 (w'.heap[gb204]? = some (.cells #[.int .i64 a0_0, (.slice Ao12 y201.length co12), u205002] 30 (0, 0))) ∧ Aside0 (Below w.heap.size w w'))
  case atStart => exact ⟨(0), (([] : List (S30))), (.slice none 0 0), q_, H', ⟨Nat.le_refl _⟩, ⟨by (with_reducible repeat (first | apply Kd.R_alloc | apply Kd.R_drewN | apply Kd.R_drew)); exact Kd.R_mono (Kd.R_far (p := ⟨gb204, 2, none⟩) (Kd.R_far (p := ⟨gb204, 1, none⟩) (Kd.R_far (p := ⟨gb204, 0, none⟩) (Kd.R_types HO203.out BK204.out (by decide)) (fun _ hk => hk.2) (.int .i64 a0_0)) (fun _ hk => hk.2) (.slice Ao12 y201.length co12)) (fun _ hk => hk.2) (.slice none 0 0)) (fun _ hk => trivial)⟩, ⟨by first | exact Kd.R_nil _ _ _ _ _ | exact Kd.N_nil _ _ _ _ _ | exact Kd.V_nil _ _ _ _ _ | exact Kd.Q_nil _ _ _ _ _ | exact Kd.S_nil _ _ _ _ _⟩, ⟨by (with_reducible repeat (first | refine blk_drewN ?_ _ | refine blk_drew ?_ | refine blk_alloc ?_ _)); refine blk_far ?_ NB196_204.out _; (with_reducible repeat (first | refine blk_drewN ?_ _ | refine blk_drew ?_ | refine blk_alloc ?_ _)); refine blk_far ?_ NB196_204.out _; (with_reducible repeat (first | refine blk_drewN ?_ _ | refine blk_drew ?_ | refine blk_alloc ?_ _)); refine blk_far ?_ NB196_204.out _; (with_reducible repeat (first | refine blk_drewN ?_ _ | refine blk_drew ?_ | refine blk_alloc ?_ _)); exact BK196.out⟩, ⟨by (with_reducible repeat (first | refine blk_drewN ?_ _ | refine blk_drew ?_ | refine blk_alloc ?_ _)); refine blk_far ?_ NB197_204.out _; (with_reducible repeat (first | refine blk_drewN ?_ _ | refine blk_drew ?_ | refine blk_alloc ?_ _)); refine blk_far ?_ NB197_204.out _; (with_reducible repeat (first | refine blk_drewN ?_ _ | refine blk_drew ?_ | refine blk_alloc ?_ _)); refine blk_far ?_ NB197_204.out _; (with_reducible repeat (first | refine blk_drewN ?_ _ | refine blk_drew ?_ | refine blk_alloc ?_ _)); exact BK197.out⟩, ⟨by (with_reducible repeat (first | refine blk_drewN ?_ _ | refine blk_drew ?_ | refine blk_alloc ?_ _)); refine blk_put (cs := #[.int .i64 a0_0, .slice Ao12 y201.length co12, .slice none 0 0]) ?_ 2 _ rfl; (with_reducible repeat (first | refine blk_drewN ?_ _ | refine blk_drew ?_ | refine blk_alloc ?_ _)); refine blk_put (cs := #[.int .i64 a0_0, .slice none 0 0, .slice none 0 0]) ?_ 1 _ rfl; (with_reducible repeat (first | refine blk_drewN ?_ _ | refine blk_drew ?_ | refine blk_alloc ?_ _)); refine blk_put (cs := #[.int .i64 0, .slice none 0 0, .slice none 0 0]) ?_ 0 _ rfl; (with_reducible repeat (first | refine blk_drewN ?_ _ | refine blk_drew ?_ | refine blk_alloc ?_ _)); exact BK204.out⟩, ⟨B3_ HB.out GE196.out GE197.out GE204.out⟩⟩
  case round =>
   clear H'
   try clear c2
   obtain ⟨x4_1, x205002_1, u205002, rfl, HA, HK1, HO_205001, HO_205002, BK196, BK197, BK204, HB⟩ := hrel
   cases gk with
   | zero => exact absurd HA.out (by simp [spec_l3Copy.l0])
   | succ k1 =>
    have H := HA.out
    clear HA
    simp only [spec_l3Copy.l0] at H
    by_cases c16 : x4_1 < (l0_2.length : Int)
    ·rw [if_pos c16] at H
     have c16b0 : decide (x4_1 < (l0_2.length : Int)) = true := decide_eq_true c16
     clear c16
     by_cases c17 : 0 ≤ x4_1
     ·rw [if_pos c17] at H
      have c17b0 : decide (0 ≤ x4_1) = true := decide_eq_true c17
      clear c17
      replace H := Option.bind_eq_some_iff.mp H
      obtain ⟨⟨t206, t207, t210⟩, A180, H⟩ := H
      replace H : (if x205002_1.length < 2513169434916 then (spec_l3Copy.l0 k1 (wrap64 (x4_1 + 1)) a0_0 l0_1 l0_2 a0_0 y201 (x205002_1 ++ [(⟨t206, t207, t210⟩ : S30)])) else (none)) = some (r1, r2, r3) := H
      have A18 := Aside0.mk A180
      clear A180
      by_cases c19 : x205002_1.length < 2513169434916
      ·rw [if_pos c19] at H
       have LMc19 := Aside0.mk c19
       clear c19
       obtain ⟨y213, hy213⟩ : ∃ y_ : List (S30), y_ = (x205002_1 ++ [(⟨t206, t207, t210⟩ : S30)]) := ⟨_, rfl⟩
       replace H : (spec_l3Copy.l0 k1 (wrap64 (x4_1 + 1)) a0_0 l0_1 l0_2 a0_0 y201 y213) = some (r1, r2, r3) := by first | (rw [hy213]; with_reducible exact H) | (have H2_ := (Option.bind_some _ _).symm.trans H; rw [hy213]; with_reducible exact H2_) | (have H2_ := (Option.bind_some _ _).symm.trans H; with_reducible exact H2_) | with_reducible exact H | (rw [hy213]; exact H) | exact H
       have Ny213 := Aside0.mk hy213
       clear hy213
       have H' := Aside0.mk H
       clear H
       have hnb20 := NB196_197.out
       have hnc20 := NB197_196.out
       have hnb21 := NB196_204.out
       have hnc21 := NB204_196.out
       obtain ⟨hcz22_0, hcz22_1, hcz22_2, hfz22_0, hfz22_1, hfz22_2⟩ := box3_ BK196.out
       try go_wp2
       replace HO_205001 := Aside0.mk (Kd.R_drew HO_205001.out)
       replace HO_205002 := Aside0.mk (Kd.R_drew HO_205002.out)
       replace BK196 := Aside0.mk (blk_drew BK196.out)
       replace BK197 := Aside0.mk (blk_drew BK197.out)
       replace BK204 := Aside0.mk (blk_drew BK204.out)
       replace HB := Aside0.mk (below_drew1 HB.out)
       have p205 : 0 ≤ (x4_1 : Int) := de_
       have q205 : x4_1 < (l0_2.length : Int) := de_
       obtain ⟨ad205, A205_1, c205_1, A205_2, c205_2, e205, hx205_0, hx205_1, hx205_2, hl205_1, hi205_1, hl205_2, hi205_2⟩ := at_T30 HR0_2.out x4_1 p205 q205
       have hw205_2 := hx205_2
       have hw205_1 := hx205_1
       have hw205_0 := hx205_0
       cases e205
       replace hx205_0 := (HB.out.cell (World.block_lt_of_cell? w _ hx205_0)).trans hx205_0
       replace hx205_1 := (HB.out.cell (World.block_lt_of_cell? w _ hx205_1)).trans hx205_1
       replace hx205_2 := (HB.out.cell (World.block_lt_of_cell? w _ hx205_2)).trans hx205_2
       have HR205_1 := Aside0.mk hi205_1
       have HC205_1 := Aside0.mk hl205_1
       clear hi205_1 hl205_1
       have HR205_2 := Aside0.mk hi205_2
       have HC205_2 := Aside0.mk hl205_2
       clear hi205_2 hl205_2
       replace p205 := eq_true p205
       replace q205 := eq_true q205
       refine start_ (n := 12) (S := fun w' => w'.cell? ⟨gb204, 0, none⟩ = some (.int .i64 a0_0) ∧ w'.cell? ⟨gb204, 1, none⟩ = some (.slice Ao12 y201.length co12) ∧ w'.cell? ⟨gb204, 2, none⟩ = some (u205002) ∧ w'.cell? ⟨gb196, 0, none⟩ = some (.int .i64 a0_0) ∧ w'.cell? ⟨gb196, 1, none⟩ = some (.slice A0_1 l0_1.length c0_1) ∧ w'.cell? ⟨gb196, 2, none⟩ = some (.slice (some ad205) l0_2.length c0_2) ∧ w'.cell? (ad205.add ((x4_1).toNat * 3)) = some (.int .i64 ((rd_T30 l0_2 x4_1).f0)) ∧ w'.cell? ⟨(ad205.add ((x4_1).toNat * 3)).block, (ad205.add ((x4_1).toNat * 3)).off + 1, none⟩ = some (.slice A205_1 ((rd_T30 l0_2 x4_1).f1).length c205_1) ∧ w'.cell? ⟨(ad205.add ((x4_1).toNat * 3)).block, (ad205.add ((x4_1).toNat * 3)).off + 2, none⟩ = some (.slice A205_2 ((rd_T30 l0_2 x4_1).f2).length c205_2)) (ds := [11]) #[false, false, false, false, false, false, false, false, false, false, false, false] (by kernel_rfl) rfl rfl ⟨(blk_cell BK204.out 0).trans rfl, (blk_cell BK204.out 1).trans rfl, (blk_cell BK204.out 2).trans rfl, (blk_cell BK196.out 0).trans rfl, (blk_cell BK196.out 1).trans rfl, (blk_cell BK196.out 2).trans rfl, ((HB.out.cell (World.block_lt_of_cell? w _ hw205_0)).trans hw205_0), ((HB.out.cell (World.block_lt_of_cell? w _ hw205_1)).trans hw205_1), ((HB.out.cell (World.block_lt_of_cell? w _ hw205_2)).trans hw205_2)⟩ (fun hHeld => ?_); refine with_tabW spec_l3Copy.tab5 spec_l3Copy.bits5 (fun HT_ HW_ => ?_)
       generalize wr.drew = w23 at HO_205001 HO_205002 BK196 BK197 BK204 HB HR205_1 HR205_2 hx205_0 hx205_1 hx205_2 hHeld ⊢
       refine pu_ HT_ (i := 0) (N := some 19) (mk_ 12 1) rfl rfl ?_
       refine pu_ HT_ (i := 2) (N := some 21) (mk_ 12 5) rfl rfl ?_
       refine pu_ HT_ (i := 4) (N := some 23) (mk_ 12 21) rfl rfl ?_
       refine tk_ HT_ HW_ hHeld (i := 1) (N := some 20) (mk_ 12 23) rfl rfl ?_
       refine tk_ HT_ HW_ hHeld (i := 3) (N := some 22) (mk_ 12 31) rfl rfl ?_
       refine pu_ HT_ (i := 5) (N := some 24) (mk_ 12 63) rfl rfl ?_
       refine tk_ HT_ HW_ hHeld (i := 6) (N := some 25) (mk_ 12 127) rfl rfl ?_
       refine on_ HT_ (i := 7) (N := some 26) (mk_ 12 255) rfl rfl (fun K hK => ?_)
       refine goes_ Try.func57 (by kernel_rfl) rfl #[.agg #[.int .i64 ((rd_T30 l0_2 x4_1).f0), .slice A205_1 ((rd_T30 l0_2 x4_1).f1).length c205_1, .slice A205_2 ((rd_T30 l0_2 x4_1).f2).length c205_2]] (by rfl) rfl rfl ma_ ?_
       with_reducible refine (ih k1 (by have := HK1.out; omega) ((rd_T30 l0_2 x4_1).f0) _ _ ((rd_T30 l0_2 x4_1).f1) _ _ ((rd_T30 l0_2 x4_1).f2) t206 t207 t210 _ ?side1 ?side2 ?side3 ?side4 A18.out).mono ?_
       (case side1 => exact C_ (Kd.C_below HR205_1.out HB.out))
       (case side2 => exact HC205_1.out)
       (case side3 => exact C_ (Kd.C_below HR205_2.out HB.out))
       (case side4 => exact HC205_2.out)
       rintro e w24 ⟨v208, v211, rfl, ho0, ho1, hb⟩
       refine ⟨_, rfl, ?_⟩
       have HO209 := Aside0.mk (Kd.R_lower (Kd.R_new' ho0 (Kd.R_lt (R_ HO_205001.out))) (below_size (B3_ HB.out GE196.out GE197.out GE204.out)))
       have HO212 := Aside0.mk (Kd.R_lower (Kd.R_newB (Kd.R_newB (Kd.R_newB (Kd.R_new' (Kd.R_new' ho1 (Kd.R_lt (R_ HO_205001.out))) (Kd.R_lt (R_ HO_205002.out))) (g := gb196) (o := .cells #[.int .i64 a0_0, .slice A0_1 l0_1.length c0_1, .slice (some ad205) l0_2.length c0_2] 30 (0, 0)) (K_ BK196.out)) (g := gb197) (o := .cells #[.int .i64 0, .slice none 0 0, .slice none 0 0] 30 (0, 0)) (K_ BK197.out)) (g := gb204) (o := .cells #[.int .i64 a0_0, .slice Ao12 y201.length co12, u205002] 30 (0, 0)) (K_ BK204.out)) (below_size (B3_ HB.out GE196.out GE197.out GE204.out)))
       replace HO_205001 := Aside0.mk (Kd.R_elder' (R_ HO_205001.out) (Kd.R_base ho0) hb)
       replace HO_205002 := Aside0.mk (Kd.R_mono (Kd.R_told (Kd.R_told (Kd.R_old (R_ HO_205002.out) hb) (Kd.R_base ho0)) (Kd.R_base ho1)) (fun _ h_ => h_.1))
       replace BK196 := kb_ BK196 hb
       replace BK197 := kb_ BK197 hb
       replace BK204 := kb_ BK204 hb
       replace HB := Aside0.mk (below_step (B3_ HB.out GE196.out GE197.out GE204.out) hb)
       (try clear hb)
       (try clear hb2)
       (try clear hk)
       (try clear hi)
       (try clear ho0)
       (try clear ho1)
       obtain ⟨Ao26, co26, eo26⟩ := Kd.R_slice HO209.out
       (first | subst eo26 | (injection eo26 with f1_ f2_ f3_; have f4_ := f1_.symm; have f5_ := f3_.symm; clear f1_ f2_ f3_; subst f4_; subst f5_))
       obtain ⟨Ao27, co27, eo27⟩ := Kd.R_slice HO212.out
       (first | subst eo27 | (injection eo27 with f1_ f2_ f3_; have f4_ := f1_.symm; have f5_ := f3_.symm; clear f1_ f2_ f3_; subst f4_; subst f5_))
       refine hK.out _ _ ⟨(blk_cell BK204.out 0).trans rfl, (blk_cell BK204.out 1).trans rfl, (blk_cell BK204.out 2).trans rfl, (blk_cell BK196.out 0).trans rfl, (blk_cell BK196.out 1).trans rfl, (blk_cell BK196.out 2).trans rfl, ((HB.out.cell (World.block_lt_of_cell? w _ hw205_0)).trans hw205_0), ((HB.out.cell (World.block_lt_of_cell? w _ hw205_1)).trans hw205_1), ((HB.out.cell (World.block_lt_of_cell? w _ hw205_2)).trans hw205_2)⟩ (fun hHeld => ?_)
       clear hK K
       refine nm_ (some 26) ?_
       refine on_ HT_ (i := 8) (N := some 27) (mk_ 12 511) rfl rfl (fun K hK => ?_)
       refine value_ (w1 := ?_) (v := ?_) (by rfl) rfl ?_ ?_
       rotate_left 2
       ·go_simp
        constructor
        ·rfl
        ·rfl
       refine hK.out _ _ ⟨(blk_cell (blk_alloc BK204.out _) 0).trans rfl, (blk_cell (blk_alloc BK204.out _) 1).trans rfl, (blk_cell (blk_alloc BK204.out _) 2).trans rfl, (blk_cell (blk_alloc BK196.out _) 0).trans rfl, (blk_cell (blk_alloc BK196.out _) 1).trans rfl, (blk_cell (blk_alloc BK196.out _) 2).trans rfl, (World.cell?_alloc_lt _ _ _ (World.block_lt_of_cell? _ _ (((HB.out.cell (World.block_lt_of_cell? w _ hw205_0)).trans hw205_0)))).trans (((HB.out.cell (World.block_lt_of_cell? w _ hw205_0)).trans hw205_0)), (World.cell?_alloc_lt _ _ _ (World.block_lt_of_cell? _ _ (((HB.out.cell (World.block_lt_of_cell? w _ hw205_1)).trans hw205_1)))).trans (((HB.out.cell (World.block_lt_of_cell? w _ hw205_1)).trans hw205_1)), (World.cell?_alloc_lt _ _ _ (World.block_lt_of_cell? _ _ (((HB.out.cell (World.block_lt_of_cell? w _ hw205_2)).trans hw205_2)))).trans (((HB.out.cell (World.block_lt_of_cell? w _ hw205_2)).trans hw205_2))⟩ (fun hHeld => ?_)
       clear hK K
       refine nm_ (some 27) ?_
       refine on_ HT_ (i := 9) (N := some 28) (mk_ 12 1023) rfl rfl (fun K hK => ?_)
       refine Kd.R_append_step k30 (w0 := w) w.heap.size (by rfl) (.tmp 20) (.tmp 27) 28 30 (.agg #[(.int .i64 0), (.slice none 0 0), (.slice none 0 0)]) 56 rfl Try.underlying28 info30 rfl (by decide) (by omega) u205002 x205002_1 (⟨t206, t207, t210⟩ : S30) [.int .i64 t206, .slice Ao26 t207.length co26, .slice Ao27 t210.length co27] (fun k_ => some k_ ≠ (.slice Ao12 y201.length co12 : Value).ownBlock ∧ k_ ≠ gb196 ∧ k_ ≠ gb197 ∧ k_ ≠ gb204) (fun k_ => ((fun k_ => some k_ ≠ (.slice Ao12 y201.length co12 : Value).ownBlock ∧ k_ ≠ gb196 ∧ k_ ≠ gb197 ∧ k_ ≠ gb204)) k_ ∧ some k_ ≠ (u205002 : Value).ownBlock) rfl rfl ?aP (fun _ hk => hk) ?aF ?aO ?aB ?aS ?aL ?_
       (case aP => exact k30_mkM _ _ _ (⟨t206, t207, t210⟩ : S30) (Kd.R_mono (Kd.R_types (Kd.R_types (Kd.R_types (Kd.R_apart' (HO209.out) (Kd.R_typed HO_205002.out) (by decide)) BK196.out (by decide)) BK197.out (by decide)) BK204.out (by decide)) (fun k_ hk => ⟨⟨hk.1.1.1.1.2, ⟨hk.1.1.2, ⟨hk.1.2, hk.2⟩⟩⟩, hk.1.1.1.2⟩)) (Kd.R_mono (HO212.out) (fun k_ hk => ⟨⟨hk.1.1.1.1.2, ⟨hk.1.1.2, ⟨hk.1.2, hk.2⟩⟩⟩, hk.1.1.1.2⟩)))
       (case aB => exact (B3_ HB.out GE196.out GE197.out GE204.out))
       (case aF => exact (fun k_ hk => ⟨Kd.fresh' (Kd.R_lt (R_ HO_205001.out)) k_ hk, Kd.freshB (K_ BK196.out) k_ hk, Kd.freshB (K_ BK197.out) k_ hk, Kd.freshB (K_ BK204.out) k_ hk⟩))
       (case aO => exact (by (with_reducible repeat (first | apply Kd.R_alloc | apply Kd.R_drewN | apply Kd.R_drew)); exact Kd.R_mono HO_205002.out (fun _ hk => ⟨hk.1.1.1, ⟨hk.1.1.2.1, ⟨hk.1.1.2.2.1, hk.1.1.2.2.2⟩⟩⟩)))
       (case aS => exact (below_size (B3_ HB.out GE196.out GE197.out GE204.out)))
       (case aL => have := LMc19.out; omega)
       intro v214 w25 ho hb hg hat
       rw [← Ny213.out] at ho
       replace HO_205001 := Aside0.mk (Kd.R_over' (R_ HO_205001.out) (Kd.R_typed (R_ HO_205002.out)) (by decide) hg)
       replace BK196 := Aside0.mk (blk_grown (g := gb196) (o := .cells #[.int .i64 a0_0, .slice A0_1 l0_1.length c0_1, .slice (some ad205) l0_2.length c0_2] 30 (0, 0)) (K_ BK196.out) hg (Kd.R_away HO_205002.out (fun _ hk => hk.1.1.2.1)))
       replace BK197 := Aside0.mk (blk_grown (g := gb197) (o := .cells #[.int .i64 0, .slice none 0 0, .slice none 0 0] 30 (0, 0)) (K_ BK197.out) hg (Kd.R_away HO_205002.out (fun _ hk => hk.1.1.2.2.1)))
       replace BK204 := Aside0.mk (blk_grown (g := gb204) (o := .cells #[.int .i64 a0_0, .slice Ao12 y201.length co12, u205002] 30 (0, 0)) (K_ BK204.out) hg (Kd.R_away HO_205002.out (fun _ hk => hk.1.1.2.2.2)))
       replace HB := Aside0.mk (hb)
       have HO215 := Aside0.mk (ho)
       clear HO_205002 HO209 HO212
       clear ho hb hg hat
       obtain ⟨Ao28, co28, eo28⟩ := Kd.R_slice HO215.out
       (first | subst eo28 | (injection eo28 with f1_ f2_ f3_; have f4_ := f1_.symm; have f5_ := f3_.symm; clear f1_ f2_ f3_; subst f4_; subst f5_))
       refine hK.out _ _ ⟨(blk_cell BK204.out 0).trans rfl, (blk_cell BK204.out 1).trans rfl, (blk_cell BK204.out 2).trans rfl, (blk_cell BK196.out 0).trans rfl, (blk_cell BK196.out 1).trans rfl, (blk_cell BK196.out 2).trans rfl, ((HB.out.cell (World.block_lt_of_cell? w _ hw205_0)).trans hw205_0), ((HB.out.cell (World.block_lt_of_cell? w _ hw205_1)).trans hw205_1), ((HB.out.cell (World.block_lt_of_cell? w _ hw205_2)).trans hw205_2)⟩ (fun hHeld => ?_)
       clear hK K
       refine nm_ (some 28) ?_
       refine pu_ HT_ (i := 10) (N := some 29) (mk_ 12 2047) rfl rfl ?_
       refine last_ (i := 11) (N := none) #[true, true, true, true, true, true, true, true, true, true, true, true] rfl rfl (one_of HT_.out (by kernel_rfl)) (by decide) (fun K hK => ?_)
       have hs29 : w25.cell? ⟨gb204, 2, none⟩ = some (u205002) := (blk_cell BK204.out 2).trans rfl
       have hfs29 := blk_frozen BK204.out 2
       have hns29_0 := NB196_204.out
       have hns29_1 := NB197_204.out
       have hms29_0 := NB204_196.out
       have hms29_1 := NB204_197.out
       refine skip_ (w1 := ?_) (by rfl) rfl ?_ ?_
       rotate_left
       ·go_simp
        rfl
       refine hK.out _ _ ?_
       clear hK K
       refine done_ (done_of HT_.out (by kernel_rfl)) ?_
       try go_wp2
       go_roundg k1
       case measure => have := HK1.out; omega
       case rel => exact ⟨(wrap64 (x4_1 + 1)), (y213), (.slice Ao28 y213.length co28), q_, H', ⟨by have := HK1.out; omega⟩, ⟨by (with_reducible repeat (first | apply Kd.R_alloc | apply Kd.R_drewN | apply Kd.R_drew)); exact Kd.R_mono (Kd.R_far (p := ⟨gb204, 2, none⟩) (Kd.R_types HO_205001.out BK204.out (by decide)) (fun _ hk => hk.2) (.slice Ao28 y213.length co28)) (fun _ hk => trivial)⟩, ⟨by (with_reducible repeat (first | apply Kd.R_alloc | apply Kd.R_drewN | apply Kd.R_drew)); exact Kd.R_mono (Kd.R_far (p := ⟨gb204, 2, none⟩) (Kd.R_mono HO215.out (fun k_ hk => (⟨hk, hk.2.2.2⟩ : _ ∧ k_ ≠ gb204))) (fun _ hk => hk.2) (.slice Ao28 y213.length co28)) (fun _ hk => ⟨hk.1.1, ⟨hk.1.2.1, ⟨hk.1.2.2.1, hk.1.2.2.2⟩⟩⟩)⟩, ⟨by (with_reducible repeat (first | refine blk_drewN ?_ _ | refine blk_drew ?_ | refine blk_alloc ?_ _)); refine blk_far ?_ NB196_204.out _; (with_reducible repeat (first | refine blk_drewN ?_ _ | refine blk_drew ?_ | refine blk_alloc ?_ _)); exact BK196.out⟩, ⟨by (with_reducible repeat (first | refine blk_drewN ?_ _ | refine blk_drew ?_ | refine blk_alloc ?_ _)); refine blk_far ?_ NB197_204.out _; (with_reducible repeat (first | refine blk_drewN ?_ _ | refine blk_drew ?_ | refine blk_alloc ?_ _)); exact BK197.out⟩, ⟨by (with_reducible repeat (first | refine blk_drewN ?_ _ | refine blk_drew ?_ | refine blk_alloc ?_ _)); refine blk_put (cs := #[.int .i64 a0_0, .slice Ao12 y201.length co12, u205002]) ?_ 2 _ rfl; (with_reducible repeat (first | refine blk_drewN ?_ _ | refine blk_drew ?_ | refine blk_alloc ?_ _)); exact BK204.out⟩, ⟨B3_ HB.out GE196.out GE197.out GE204.out⟩⟩
      ·rw [if_neg c19] at H
       exact absurd H (by simp)
     ·rw [if_neg c17] at H
      exact absurd H (by simp)
    ·rw [if_neg c16] at H
     have c16b0 : decide (x4_1 < (l0_2.length : Int)) = false := decide_eq_false c16
     clear c16
     simp only [Option.some.injEq, Prod.mk.injEq] at H
     obtain ⟨rfl, rfl, rfl⟩ := H
     have hnb30 := NB196_197.out
     have hnc30 := NB197_196.out
     have hnb31 := NB196_204.out
     have hnc31 := NB204_196.out
     obtain ⟨hcz32_0, hcz32_1, hcz32_2, hfz32_0, hfz32_1, hfz32_2⟩ := box3_ BK196.out
     have hnb33 := NB204_197.out
     have hnc33 := NB197_204.out
     obtain ⟨hcz34_0, hcz34_1, hcz34_2, hfz34_0, hfz34_1, hfz34_2⟩ := box3_ BK204.out
     obtain ⟨hcz35_0, hcz35_1, hcz35_2, hfz35_0, hfz35_1, hfz35_2⟩ := box3_ BK197.out
     obtain ⟨Ao36, co36, eo36⟩ := Kd.R_slice HO_205002.out
     subst eo36
     go_wp2
     refine bodyPost_ret (results_cell_row rfl _ _ gb197 30 #[.int .i64 a0_0, .slice Ao12 y201.length co12, .slice Ao36 x205002_1.length co36] (0, 0) _ rfl (by (with_reducible repeat (first | refine blk_drewN ?_ _ | refine blk_drew ?_ | refine blk_alloc ?_ _)); refine blk_put (cs := #[.int .i64 a0_0, .slice Ao12 y201.length co12, .slice none 0 0]) ?_ 2 _ rfl; (with_reducible repeat (first | refine blk_drewN ?_ _ | refine blk_drew ?_ | refine blk_alloc ?_ _)); refine blk_put (cs := #[.int .i64 a0_0, .slice none 0 0, .slice none 0 0]) ?_ 1 _ rfl; (with_reducible repeat (first | refine blk_drewN ?_ _ | refine blk_drew ?_ | refine blk_alloc ?_ _)); refine blk_put (cs := #[.int .i64 0, .slice none 0 0, .slice none 0 0]) ?_ 0 _ rfl; (with_reducible repeat (first | refine blk_drewN ?_ _ | refine blk_drew ?_ | refine blk_alloc ?_ _)); exact BK197.out) Try.underlying30 rfl (by kernel_rfl)) rfl ?_
     exact ⟨_, _, er_, by (with_reducible repeat (first | apply Kd.R_alloc | apply Kd.R_drewN | apply Kd.R_drew)); exact Kd.R_mono (Kd.R_far (p := ⟨gb197, 2, none⟩) (Kd.R_far (p := ⟨gb197, 1, none⟩) (Kd.R_far (p := ⟨gb197, 0, none⟩) (Kd.R_types HO_205001.out BK197.out (by decide)) (fun _ hk => hk.2) (.int .i64 a0_0)) (fun _ hk => hk.2) (.slice Ao12 y201.length co12)) (fun _ hk => hk.2) (.slice Ao36 x205002_1.length co36)) (fun _ hk => trivial), by (with_reducible repeat (first | apply Kd.R_alloc | apply Kd.R_drewN | apply Kd.R_drew)); exact Kd.R_mono (Kd.R_far (p := ⟨gb197, 2, none⟩) (Kd.R_far (p := ⟨gb197, 1, none⟩) (Kd.R_far (p := ⟨gb197, 0, none⟩) (Kd.R_mono HO_205002.out (fun k_ hk => (⟨hk, hk.2.2.1⟩ : _ ∧ k_ ≠ gb197))) (fun _ hk => hk.2) (.int .i64 a0_0)) (fun _ hk => hk.2) (.slice Ao12 y201.length co12)) (fun _ hk => hk.2) (.slice Ao36 x205002_1.length co36)) (fun _ hk => hk.1.1), B3_ HB.out GE196.out GE197.out GE204.out⟩
 ·rw [if_neg c2] at H
  exact absurd H (by simp)

/-! ### spec_l3List: function 76 -/
def spec_l3List.f (k : Nat) (a0_0 : Int) (l0_1 : List ByteArray) (l0_2 : List (S30)) : Option (Int × List ByteArray × (List (S30))) := (spec_l3Copy.f k a0_0 l0_1 l0_2).bind fun bt218 => (some (5, ([] : List ByteArray), (([(⟨bt218.1, bt218.2.1, bt218.2.2⟩ : S30)] : List (S30)))))
theorem spec_l3List.mono : ∀ a0 a1 a2 k, LeO (spec_l3List.f k a0 a1 a2) (spec_l3List.f (k + 1) a0 a1 a2) := by
 intro a0 a1 a2 k
 unfold spec_l3List.f
 repeat' first
   | (with_reducible exact spec_l3Copy.mono _ _ _ _)
   | (with_reducible exact LeO.refl _)
   | (with_reducible exact LeO.none _)
   | (with_reducible refine LeO.ite ?_ ?_)
   | (with_reducible refine LeO.bind ?_ (fun _ => ?_))
   | exact spec_l3Copy.mono _ _ _ _
   | exact LeO.none _
   | refine LeO.ite ?_ ?_
   | refine LeO.bind ?_ (fun _ => ?_)
set_option maxHeartbeats 8000000 in
set_option maxRecDepth 100000 in
theorem spec_l3List.calls (k : Nat) (a0_0 : Int) (A0_1 : Option Addr) (c0_1 : Nat) (l0_1 : List ByteArray) (A0_2 : Option Addr) (c0_2 : Nat) (l0_2 : List (S30)) (r1 : Int) (r2 : List ByteArray) (r3 : List (S30)) (w : World) (hr0_1 : Kd.C Kd.string w A0_1 l0_1.length l0_1) (hc0_1 : l0_1.length ≤ c0_1) (hr0_2 : Kd.C k30 w A0_2 l0_2.length l0_2) (hc0_2 : l0_2.length ≤ c0_2) (h : spec_l3List.f k a0_0 l0_1 l0_2 = some (r1, r2, r3)) :
  Calls Try.prog 76 #[.agg #[.int .i64 a0_0, .slice A0_1 l0_1.length c0_1, .slice A0_2 l0_2.length c0_2]] w fun e w' => ∃ v1_ v2_ : Value, e = .returned (.agg #[.int .i64 r1, v1_, v2_]) ∧ Kd.R Kd.string 9 w' w.heap.size (fun k_ => (w.heap.size ≤ k_)) v1_ r2 ∧ Kd.N k30 30 w' w.heap.size (fun k_ => (w.heap.size ≤ k_) ∧ some k_ ≠ (v1_ : Value).ownBlock) v2_ r3 ∧ Below w.heap.size w w' := by
 have hu30 := Try.underlying30
 have HR0_1 := Aside0.mk hr0_1
 have HC0_1 := Aside0.mk hc0_1
 clear hr0_1 hc0_1
 have HR0_2 := Aside0.mk hr0_2
 have HC0_2 := Aside0.mk hc0_2
 clear hr0_2 hc0_2
 have HB := Aside0.mk (Below.refl w.heap.size w)
 have H : ((spec_l3Copy.f k a0_0 l0_1 l0_2).bind fun bt218 => (some (5, ([] : List ByteArray), (([(⟨bt218.1, bt218.2.1, bt218.2.2⟩ : S30)] : List (S30)))))) = some (r1, r2, r3) := h
 clear h
 replace H := Option.bind_eq_some_iff.mp H
 obtain ⟨⟨t218, t219, t222⟩, A20, H⟩ := H
 replace H : (some (5, ([] : List ByteArray), (([(⟨t218, t219, t222⟩ : S30)] : List (S30))))) = some (r1, r2, r3) := H
 have A2 := Aside0.mk A20
 clear A20
 obtain ⟨y225, hy225⟩ : ∃ y_ : List (S30), y_ = (([(⟨t218, t219, t222⟩ : S30)] : List (S30))) := ⟨_, rfl⟩
 replace H : (some (5, ([] : List ByteArray), y225)) = some (r1, r2, r3) := by first | (rw [hy225]; with_reducible exact H) | (have H2_ := (Option.bind_some _ _).symm.trans H; rw [hy225]; with_reducible exact H2_) | (have H2_ := (Option.bind_some _ _).symm.trans H; with_reducible exact H2_) | with_reducible exact H | (rw [hy225]; exact H) | exact H
 have Ny225 := Aside0.mk hy225
 clear hy225
 simp only [Option.some.injEq, Prod.mk.injEq] at H
 obtain ⟨rfl, rfl, rfl⟩ := H
 go_enter Try.func76, Try.ntmps76
 go_wp2_with (first | ((with_reducible refine gate_dst (N := 1) rfl ?_); refine box_event ?hg (N := 1) ?hd (cs := #[.int .i64 a0_0, .slice A0_1 l0_1.length c0_1, .slice A0_2 l0_2.length c0_2]) (t := 30) ?hr ?_; (case hd => rfl); (case hg => rfl); (case hr => first | (go_simp; done) | (go_simp; rfl)); intro gb216 hg w3 hbox hb; have BK216 := Aside0.mk (hbox); have GW216 := Aside0.mk ((by rw [hg]; exact (below_size (B0_ HB.out)) : w.heap.size ≤ gb216)); have GE216 := Aside0.mk ((by rw [hg]; exact (below_size (B0_ HB.out)) : w.heap.size ≤ gb216)); replace HB := Aside0.mk (below_step (B0_ HB.out) hb); clear hb hbox hg) | ((with_reducible refine gate_dst (N := 2) rfl ?_); refine box_event ?hg (N := 2) ?hd (cs := #[.int .i64 0, .slice none 0 0, .slice none 0 0]) (t := 30) ?hr ?_; (case hd => rfl); (case hg => rfl); (case hr => first | (go_simp; done) | (go_simp; rfl)); intro gb217 hg w4 hbox hb; have BK217 := Aside0.mk (hbox); have GW217 := Aside0.mk ((by rw [hg]; exact (below_size (B1_ HB.out GE216.out)) : w.heap.size ≤ gb217)); have GE217 := Aside0.mk ((by rw [hg]; exact (below_size (B1_ HB.out GE216.out)) : w.heap.size ≤ gb217)); replace HB := Aside0.mk (below_step (B1_ HB.out GE216.out) hb); have NB216_217 := Aside0.mk ((by rw [hg]; exact Nat.ne_of_lt (blk_lt (K_ BK216.out)) : gb216 ≠ gb217)); have NB217_216 := Aside0.mk ((by rw [hg]; exact Nat.ne_of_gt (blk_lt (K_ BK216.out)) : gb217 ≠ gb216)); replace BK216 := kb_ BK216 hb; clear hb hbox hg; have hnb5 := NB216_217.out; have hnc5 := NB217_216.out; obtain ⟨hcz6_0, hcz6_1, hcz6_2, hfz6_0, hfz6_1, hfz6_2⟩ := box3_ BK216.out) | ((with_reducible refine gate_callee (f := 57) rfl ?_); refine goesL_ (some 4) rfl rfl Try.func57 (by kernel_rfl) rfl #[.agg #[.int .i64 a0_0, .slice A0_1 l0_1.length c0_1, .slice A0_2 l0_2.length c0_2]] rfl ma_ ?_; (with_reducible refine (spec_l3Copy.calls k a0_0 _ _ l0_1 _ _ l0_2 t218 t219 t222 _ ?side1 ?side2 ?side3 ?side4 A2.out).mono ?_); (case side1 => exact C_ (Kd.C_below HR0_1.out HB.out)); (case side2 => exact HC0_1.out); (case side3 => exact C_ (Kd.C_below HR0_2.out HB.out)); (case side4 => exact HC0_2.out); rintro e w7 ⟨v220, v223, rfl, ho0, ho1, hb⟩; refine ⟨_, rfl, ?_⟩; have HO221 := Aside0.mk (Kd.R_lower (Kd.R_newM (M := fun k_ => (w.heap.size ≤ k_)) ho0 (below_size (B2_ HB.out GE216.out GE217.out)) (fun k_ h_ => h_)) (below_size (B2_ HB.out GE216.out GE217.out))); have HO224 := Aside0.mk (Kd.N_lower (Kd.N_mono (ok' := fun k_ => (w.heap.size ≤ k_) ∧ some k_ ≠ (v220 : Value).ownBlock ∧ k_ ≠ gb216 ∧ k_ ≠ gb217) (Kd.R_N (Kd.R_bound ho1)) (fun k_ hk_ => ⟨(Nat.le_trans (below_size (B2_ HB.out GE216.out GE217.out)) hk_.2.1), hk_.1, (Kd.freshB (K_ BK216.out) k_ hk_.2.1), (Kd.freshB (K_ BK217.out) k_ hk_.2.1)⟩)) (below_size (B2_ HB.out GE216.out GE217.out))); replace BK216 := kb_ BK216 hb; replace BK217 := kb_ BK217 hb; replace HB := Aside0.mk (below_step (B2_ HB.out GE216.out GE217.out) hb); (try clear hb); (try clear hb2); (try clear hk); (try clear hi); (try clear ho0); (try clear ho1); obtain ⟨Ao8, co8, eo8⟩ := Kd.R_slice HO221.out; subst eo8; obtain ⟨Ao9, co9, eo9⟩ := Kd.N_slice HO224.out; subst eo9) | ((with_reducible refine gate_dst (N := 5) rfl ?_); refine Kd.N_lit k30 _ 30 ?hg (N' := 5) ?hd (xs := ([(⟨t218, t219, t222⟩ : S30)] : List (S30))) (inner := [.int .i64 t218, .slice Ao8 t219.length co8, .slice Ao9 t222.length co9]) (ok := (fun k_ => (w.heap.size ≤ k_) ∧ k_ ≠ gb216 ∧ k_ ≠ gb217)) (okp := (fun k_ => (w.heap.size ≤ k_) ∧ k_ ≠ gb216 ∧ k_ ≠ gb217)) ?hr ?hp (fun _ hk => hk) ((show ∀ k_, w7.heap.size ≤ k_ → (fun k_ => (w.heap.size ≤ k_) ∧ k_ ≠ gb216 ∧ k_ ≠ gb217) k_ from fun k_ hk => ⟨(Nat.le_trans (below_size (B2_ HB.out GE216.out GE217.out)) hk), Kd.freshB (K_ BK216.out) k_ hk, Kd.freshB (K_ BK217.out) k_ hk⟩) _ (Nat.le_refl _)) (Below.refl _ _) (Nat.le_refl _) (by simp) ?_; (case hd => rfl); (case hg => rfl); (case hr => first | (go_simp; done) | (go_simp; rfl)); (case hp => exact (Reps.c3 (show Kd.FK k30 _ _ (⟨t218, t219, t222⟩ : S30) [.int .i64 t218, .slice Ao8 t219.length co8, .slice Ao9 t222.length co9] from (k30_mkF _ _ (⟨t218, t219, t222⟩ : S30) (Kd.R_reads' (Kd.R_mono (ok' := (fun k_ => (w.heap.size ≤ k_) ∧ k_ ≠ gb216 ∧ k_ ≠ gb217)) (Kd.R_types (Kd.R_types (HO221.out) BK216.out (by decide)) BK217.out (by decide)) (fun k_ hk => ⟨hk.1.1.1, ⟨hk.1.2, hk.2⟩⟩))).2.1 (Kd.R_F (Kd.R_mono (ok' := (fun k_ => (w.heap.size ≤ k_) ∧ k_ ≠ gb216 ∧ k_ ≠ gb217)) (Kd.R_types (Kd.R_types (HO221.out) BK216.out (by decide)) BK217.out (by decide)) (fun k_ hk => ⟨hk.1.1.1, ⟨hk.1.2, hk.2⟩⟩))) (Kd.N_reads' (Kd.N_mono (ok' := (fun k_ => (w.heap.size ≤ k_) ∧ k_ ≠ gb216 ∧ k_ ≠ gb217)) (HO224.out) (fun k_ hk => ⟨hk.1, ⟨hk.2.2.1, hk.2.2.2⟩⟩))).2.1 (Kd.N_F (Kd.N_mono (ok' := (fun k_ => (w.heap.size ≤ k_) ∧ k_ ≠ gb216 ∧ k_ ≠ gb217)) (HO224.out) (fun k_ hk => ⟨hk.1, ⟨hk.2.2.1, hk.2.2.2⟩⟩))))) (Reps.none _ _))); intro v226 w10 ho11 hb hg_ hnew_; clear hg_ hnew_; (first | rw [← Ny225.out] at ho11 | (simp only [Int.reduceToNat] at ho11; rw [← Ny225.out] at ho11)); have HO227 := Aside0.mk (Kd.N_lower ho11 (below_size (B2_ HB.out GE216.out GE217.out))); replace BK216 := kb_ BK216 hb; replace BK217 := kb_ BK217 hb; replace HB := Aside0.mk (below_step (B2_ HB.out GE216.out GE217.out) hb); clear HO221 HO224; clear hb ho11; obtain ⟨Ao12, co12, eo12⟩ := Kd.N_slice HO227.out; subst eo12; obtain ⟨hcz13_0, hcz13_1, hcz13_2, hfz13_0, hfz13_1, hfz13_2⟩ := box3_ BK217.out))
 refine bodyPost_ret (results_cell_row rfl _ _ gb217 30 #[.int .i64 5, .slice none 0 0, .slice Ao12 y225.length co12] (0, 0) _ rfl (by (with_reducible repeat (first | refine blk_drewN ?_ _ | refine blk_drew ?_ | refine blk_alloc ?_ _)); refine blk_put (cs := #[.int .i64 5, .slice none 0 0, .slice none 0 0]) ?_ 2 _ rfl; (with_reducible repeat (first | refine blk_drewN ?_ _ | refine blk_drew ?_ | refine blk_alloc ?_ _)); refine blk_put (cs := #[.int .i64 5, .slice none 0 0, .slice none 0 0]) ?_ 1 _ rfl; (with_reducible repeat (first | refine blk_drewN ?_ _ | refine blk_drew ?_ | refine blk_alloc ?_ _)); refine blk_put (cs := #[.int .i64 0, .slice none 0 0, .slice none 0 0]) ?_ 0 _ rfl; (with_reducible repeat (first | refine blk_drewN ?_ _ | refine blk_drew ?_ | refine blk_alloc ?_ _)); exact BK217.out) Try.underlying30 rfl (by kernel_rfl)) rfl ?_
 exact ⟨_, _, er_, by first | exact Kd.R_nil _ _ _ _ _ | exact Kd.N_nil _ _ _ _ _ | exact Kd.V_nil _ _ _ _ _ | exact Kd.Q_nil _ _ _ _ _ | exact Kd.S_nil _ _ _ _ _, by (with_reducible repeat (first | apply Kd.N_alloc | apply Kd.N_drewN | apply Kd.N_drew)); exact Kd.N_mono (Kd.N_far (p := ⟨gb217, 2, none⟩) (Kd.N_far (p := ⟨gb217, 1, none⟩) (Kd.N_far (p := ⟨gb217, 0, none⟩) (Kd.N_mono HO227.out (fun k_ hk => (⟨hk, hk.2.2⟩ : _ ∧ k_ ≠ gb217))) (fun _ hk => hk.2) (.int .i64 5)) (fun _ hk => hk.2) (.slice none 0 0)) (fun _ hk => hk.2) (.slice Ao12 y225.length co12)) (fun _ hk => ⟨hk.1.1, (by simp [Value.ownBlock])⟩), B2_ HB.out GE216.out GE217.out⟩

end Go.Proofs.Ytingaflikkeefaa.XB
