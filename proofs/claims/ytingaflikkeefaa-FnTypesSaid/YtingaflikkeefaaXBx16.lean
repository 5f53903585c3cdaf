-- Written by myprint.py, a program of this session, which runs the kit's printer with changes of its own. Lean checks it.
import Derived.Test.YtingaflikkeefaaXBx0
import Derived.Test.YtingaflikkeefaaXBx15
import Derived.Test.YtingaflikkeefaaSq
namespace Go.Proofs.Ytingaflikkeefaa.XB
open Go.RowKit Go.Proofs.YtingaflikkeefaaW.PrintWords Go.Proofs.YtingaflikkeefaaW.PrintLast Go.Proofs.YtingaflikkeefaaW.PrintMore Go.Proofs.Ytingaflikkeefaa.Sq
attribute [local go_sem] max2_int min2_int max_two min_two max_three min_three max_four min_four   -- for this text's walks alone
set_option linter.unusedVariables false
set_option linter.unusedSimpArgs false

/-! ### impl_cloneType: function 60 -/
mutual
def impl_cloneType.l0 : Nat → List (S30) → Int → Int → Int → List ByteArray → List (S30) → Option (Int × List ByteArray × (List (S30)))
 | 0, _, _, _, _, _, _ => none
 | k + 1, x13, x14, x15, x497000, x497001, x497002 => if x15 < x14 then (if 0 ≤ x15 then (if x15 < (x13.length : Int) then ((impl_cloneType.f k ((rd_T30 x13 x15).f0) ((rd_T30 x13 x15).f1) ((rd_T30 x13 x15).f2)).bind fun bt499 => (if x497002.length < 2513169434916 then (impl_cloneType.l0 k x13 x14 (wrap64 (x15 + 1)) x497000 x497001 (x497002 ++ [(⟨bt499.1, bt499.2.1, bt499.2.2⟩ : S30)])) else (none))) else (none)) else (none)) else (some (x497000, x497001, x497002))
def impl_cloneType.f : Nat → Int → List ByteArray → List (S30) → Option (Int × List ByteArray × (List (S30)))
 | 0, _, _, _ => none
 | k + 1, a0_0, l0_1, l0_2 => (impl_cloneStrings.f l0_1).bind fun t493 => (impl_cloneType.l0 k l0_2 (l0_2.length : Int) 0 a0_0 t493 ([] : List (S30)))
end
theorem impl_cloneType.mono_l : ∀ k, (∀ y0 y1 y2, LeO (impl_cloneType.f k y0 y1 y2) (impl_cloneType.f (k + 1) y0 y1 y2)) ∧ (∀ y0 y1 y2 y3 y4 y5, LeO (impl_cloneType.l0 k y0 y1 y2 y3 y4 y5) (impl_cloneType.l0 (k + 1) y0 y1 y2 y3 y4 y5))
 | 0 => ⟨fun _ _ _ r h => by simp [impl_cloneType.f] at h, fun _ _ _ _ _ _ r h => by simp [impl_cloneType.l0] at h⟩
 | k + 1 => by
  obtain ⟨ih0, ih1⟩ := impl_cloneType.mono_l k
  refine ⟨?_, ?_⟩
  ·intro y0 y1 y2
   unfold impl_cloneType.f
   repeat' first
   | (with_reducible exact ih0 _ _ _)
   | (with_reducible exact ih1 _ _ _ _ _ _)
   | (with_reducible exact LeO.refl _)
   | (with_reducible exact LeO.none _)
   | (with_reducible refine LeO.ite ?_ ?_)
   | (with_reducible refine LeO.bind ?_ (fun _ => ?_))
   | exact ih0 _ _ _
   | exact ih1 _ _ _ _ _ _
   | exact LeO.none _
   | refine LeO.ite ?_ ?_
   | refine LeO.bind ?_ (fun _ => ?_)
  ·intro y0 y1 y2 y3 y4 y5
   unfold impl_cloneType.l0
   repeat' first
   | (with_reducible exact ih0 _ _ _)
   | (with_reducible exact ih1 _ _ _ _ _ _)
   | (with_reducible exact LeO.refl _)
   | (with_reducible exact LeO.none _)
   | (with_reducible refine LeO.ite ?_ ?_)
   | (with_reducible refine LeO.bind ?_ (fun _ => ?_))
   | exact ih0 _ _ _
   | exact ih1 _ _ _ _ _ _
   | exact LeO.none _
   | refine LeO.ite ?_ ?_
   | refine LeO.bind ?_ (fun _ => ?_)
theorem impl_cloneType.mono : ∀ a0 a1 a2 k, LeO (impl_cloneType.f k a0 a1 a2) (impl_cloneType.f (k + 1) a0 a1 a2) := by
 intro a0 a1 a2 k
 obtain ⟨ih0, ih1⟩ := impl_cloneType.mono_l k
 exact ih0 a0 a1 a2
def impl_cloneType.T1 : Bool × List (List Nat × List Nat) := (true, [([], []), ([0], [0]), ([], []), ([2], [2]), ([3], [3]), ([1, 4], [1, 4]), ([], []), ([6, 5, 4, 0, 1, 2, 3, 4, 5, 6], [5, 6])])
def impl_cloneType.B1 : List Nat := [0, 1, 0, 4, 12, 31, 0, 127]
theorem impl_cloneType.tab1 : rtab .any (opsOf Try.f60 1) = impl_cloneType.T1 := by kernel_rfl
theorem impl_cloneType.bits1 : waitsOk impl_cloneType.T1.2 impl_cloneType.B1 = true := by kernel_rfl
def impl_cloneType.T5 : Bool × List (List Nat × List Nat) := (true, [([], []), ([0], [0]), ([], []), ([2], [2]), ([3], [3]), ([1, 4, 3], [1, 4]), ([0, 1, 2, 3, 4, 5], []), ([6, 5, 5, 0, 1, 2, 3, 4, 5], [5, 6])])
def impl_cloneType.B5 : List Nat := [0, 1, 0, 4, 12, 31, 63, 127]
theorem impl_cloneType.tab5 : rtab .any (opsOf Try.f60 5) = impl_cloneType.T5 := by kernel_rfl
theorem impl_cloneType.bits5 : waitsOk impl_cloneType.T5.2 impl_cloneType.B5 = true := by kernel_rfl
set_option maxHeartbeats 8000000 in
set_option maxRecDepth 100000 in
theorem impl_cloneType.calls (k : Nat) : ∀ (a0_0 : Int) (A0_1 : Option Addr) (c0_1 : Nat) (l0_1 : List ByteArray) (A0_2 : Option Addr) (c0_2 : Nat) (l0_2 : List (S30)) (r1 : Int) (r2 : List ByteArray) (r3 : List (S30)) (w : World) (hr0_1 : Kd.C Kd.string w A0_1 l0_1.length l0_1) (hc0_1 : l0_1.length ≤ c0_1) (hr0_2 : Kd.C k30 w A0_2 l0_2.length l0_2) (hc0_2 : l0_2.length ≤ c0_2) (h : impl_cloneType.f k a0_0 l0_1 l0_2 = some (r1, r2, r3)),
  Calls Try.prog 60 #[.agg #[.int .i64 a0_0, .slice A0_1 l0_1.length c0_1, .slice A0_2 l0_2.length c0_2]] w fun e w' => ∃ v1_ v2_ : Value, e = .returned (.agg #[.int .i64 r1, v1_, v2_]) ∧ Kd.R Kd.string 9 w' w.heap.size (fun _ => True) v1_ r2 ∧ Kd.R k30 30 w' w.heap.size (fun k_ => some k_ ≠ (v1_ : Value).ownBlock) v2_ r3 ∧ Below w.heap.size w w' := by
 induction k using Nat.strongRecOn with
 | _ k ih =>
 intro a0_0 A0_1 c0_1 l0_1 A0_2 c0_2 l0_2 r1 r2 r3 w hr0_1 hc0_1 hr0_2 hc0_2 h
 cases k with
 | zero => exact absurd h (by simp [impl_cloneType.f])
 | succ k =>
 simp only [impl_cloneType.f] at h
 have hu30 := Try.underlying30
 have HR0_1 := Aside0.mk hr0_1
 have HC0_1 := Aside0.mk hc0_1
 clear hr0_1 hc0_1
 have HR0_2 := Aside0.mk hr0_2
 have HC0_2 := Aside0.mk hc0_2
 clear hr0_2 hc0_2
 have HB := Aside0.mk (Below.refl w.heap.size w)
 have H : ((impl_cloneStrings.f l0_1).bind fun t493 => (impl_cloneType.l0 k l0_2 (l0_2.length : Int) 0 a0_0 t493 ([] : List (S30)))) = some (r1, r2, r3) := h
 clear h
 replace H := Option.bind_eq_some_iff.mp H
 obtain ⟨t493, A20, H⟩ := H
 replace H : (impl_cloneType.l0 k l0_2 (l0_2.length : Int) 0 a0_0 t493 ([] : List (S30))) = some (r1, r2, r3) := H
 have A2 := Aside0.mk A20
 clear A20
 have H' := Aside0.mk H
 clear H
 go_enter Try.func60, Try.ntmps60
 try go_wp2_with (first | ((with_reducible refine gate_dst (N := 1) rfl ?_); refine box_event ?hg (N := 1) ?hd (cs := #[.int .i64 a0_0, .slice A0_1 l0_1.length c0_1, .slice A0_2 l0_2.length c0_2]) (t := 30) ?hr ?_; (case hd => rfl); (case hg => rfl); (case hr => first | (go_simp; done) | (go_simp; rfl)); intro gb491 hg w3 hbox hb; have BK491 := Aside0.mk (hbox); have GW491 := Aside0.mk ((by rw [hg]; exact (below_size (B0_ HB.out)) : w.heap.size ≤ gb491)); have GE491 := Aside0.mk ((by rw [hg]; exact (below_size (B0_ HB.out)) : w.heap.size ≤ gb491)); replace HB := Aside0.mk (below_step (B0_ HB.out) hb); clear hb hbox hg) | ((with_reducible refine gate_dst (N := 2) rfl ?_); refine box_event ?hg (N := 2) ?hd (cs := #[.int .i64 0, .slice none 0 0, .slice none 0 0]) (t := 30) ?hr ?_; (case hd => rfl); (case hg => rfl); (case hr => first | (go_simp; done) | (go_simp; rfl)); intro gb492 hg w4 hbox hb; have BK492 := Aside0.mk (hbox); have GW492 := Aside0.mk ((by rw [hg]; exact (below_size (B1_ HB.out GE491.out)) : w.heap.size ≤ gb492)); have GE492 := Aside0.mk ((by rw [hg]; exact (below_size (B1_ HB.out GE491.out)) : w.heap.size ≤ gb492)); replace HB := Aside0.mk (below_step (B1_ HB.out GE491.out) hb); have NB491_492 := Aside0.mk ((by rw [hg]; exact Nat.ne_of_lt (blk_lt (K_ BK491.out)) : gb491 ≠ gb492)); have NB492_491 := Aside0.mk ((by rw [hg]; exact Nat.ne_of_gt (blk_lt (K_ BK491.out)) : gb492 ≠ gb491)); replace BK491 := kb_ BK491 hb; clear hb hbox hg))
 replace BK491 := Aside0.mk (blk_drew BK491.out)
 replace BK492 := Aside0.mk (blk_drew BK492.out)
 replace HB := Aside0.mk (below_drew1 HB.out)
 refine start_ (n := 8) (S := fun w' => w'.cell? ⟨gb491, 0, none⟩ = some (.int .i64 a0_0) ∧ w'.cell? ⟨gb491, 1, none⟩ = some (.slice A0_1 l0_1.length c0_1) ∧ w'.cell? ⟨gb491, 2, none⟩ = some (.slice A0_2 l0_2.length c0_2)) (ds := []) #[false, false, false, false, false, false, false, false] (by kernel_rfl) rfl rfl ⟨(blk_cell BK491.out 0).trans rfl, (blk_cell BK491.out 1).trans rfl, (blk_cell BK491.out 2).trans rfl⟩ (fun hHeld => ?_); refine with_tabW impl_cloneType.tab1 impl_cloneType.bits1 (fun HT_ HW_ => ?_)
 generalize w4.drew = w5 at BK491 BK492 HB hHeld ⊢
 refine pu_ HT_ (i := 0) (N := some 6) (mk_ 8 1) rfl rfl ?_
 refine pu_ HT_ (i := 2) (N := some 8) (mk_ 8 5) rfl rfl ?_
 refine tk_ HT_ HW_ hHeld (i := 1) (N := some 7) (mk_ 8 7) rfl rfl ?_
 refine tk_ HT_ HW_ hHeld (i := 3) (N := some 9) (mk_ 8 15) rfl rfl ?_
 refine join_ (σ := Value × Nat) 1 #[true, true, true, true, true, true, true, false] (fun s_ => [(10, s_.1), (3, .pointer (some ⟨s_.2, 0, none⟩)), (11, .agg #[.int .i64 a0_0, s_.1, .slice none 0 0])]) (fun s_ w' => (w'.cell? ⟨gb491, 0, none⟩ = some (.int .i64 a0_0) ∧ w'.cell? ⟨gb491, 1, none⟩ = some (.slice A0_1 l0_1.length c0_1) ∧ w'.cell? ⟨gb491, 2, none⟩ = some (.slice A0_2 l0_2.length c0_2)) ∧ (Kd.R Kd.string 9 w' w.heap.size (fun _ => True) s_.1 t493) ∧ (w'.heap[gb491]? = some (.cells #[.int .i64 a0_0, .slice A0_1 l0_1.length c0_1, .slice A0_2 l0_2.length c0_2] 30 (0, 0))) ∧ (w'.heap[gb492]? = some (.cells #[.int .i64 0, .slice none 0 0, .slice none 0 0] 30 (0, 0))) ∧ (w'.heap[s_.2]? = some (.cells #[.int .i64 0, .slice none 0 0, .slice none 0 0] 30 (0, 0))) ∧ (w.heap.size ≤ s_.2) ∧ (w.heap.size ≤ s_.2) ∧ (gb491 ≠ s_.2) ∧ (s_.2 ≠ gb491) ∧ (gb492 ≠ s_.2) ∧ (s_.2 ≠ gb492) ∧ (Below w.heap.size w w')) ?_ ?_
 rotate_left
 ·intro hCont
  refine two_ (i := 4) (j := 6) (Ni := some 10) (Nj := some 3) #[true, true, true, true, true, false, false, false] #[true, true, true, true, false, false, true, false] rfl rfl rfl rfl (two_of HT_.out (by kernel_rfl)) (by decide) (by decide) (fun K hK => ?_) (fun K hK => ?_)
  ·skip
   refine goes_ Try.func77 (by kernel_rfl) rfl #[.slice A0_1 l0_1.length c0_1] (by rfl) rfl rfl ma_ ?_
   with_reducible refine (impl_cloneStrings.calls _ _ l0_1 t493 _ ?side1 ?side2 A2.out).mono ?_
   (case side1 => exact C_ (Kd.C_below HR0_1.out HB.out))
   (case side2 => exact HC0_1.out)
   rintro e w6 ⟨v494, rfl, ho0, hb⟩
   refine ⟨_, rfl, ?_⟩
   have HO495 := Aside0.mk (Kd.R_lower ho0 (below_size (B2_ HB.out GE491.out GE492.out)))
   replace BK491 := kb_ BK491 hb
   replace BK492 := kb_ BK492 hb
   replace HB := Aside0.mk (below_step (B2_ HB.out GE491.out GE492.out) hb)
   (try clear hb)
   (try clear hb2)
   (try clear hk)
   (try clear hi)
   (try clear ho0)
   obtain ⟨Ao7, co7, eo7⟩ := Kd.R_slice HO495.out
   (first | subst eo7 | (injection eo7 with f1_ f2_ f3_; have f4_ := f1_.symm; have f5_ := f3_.symm; clear f1_ f2_ f3_; subst f4_; subst f5_))
   refine hK.out _ _ ⟨(blk_cell BK491.out 0).trans rfl, (blk_cell BK491.out 1).trans rfl, (blk_cell BK491.out 2).trans rfl⟩ (fun hHeld => ?_)
   clear hK K
   refine nm_ (some 10) ?_
   refine pu_ HT_ (i := 5) (N := some 11) (mk_ 8 63) rfl rfl ?_
   refine on_ HT_ (i := 6) (N := some 3) (mk_ 8 127) rfl rfl (fun K hK => ?_)
   refine box_step ?hg (N := 3) ?hd (cs := #[.int .i64 0, .slice none 0 0, .slice none 0 0]) (t := 30) ?hr ?_; (case hd => rfl); (case hg => rfl); (case hr => first | (go_simp; done) | (go_simp; rfl))
   intro gb496 hg w8 hbox hb
   replace HO495 := rb_ HO495 hb
   have BK496 := Aside0.mk (hbox)
   have GW496 := Aside0.mk ((by rw [hg]; exact (below_size (B2_ HB.out GE491.out GE492.out)) : w.heap.size ≤ gb496))
   have GE496 := Aside0.mk ((by rw [hg]; exact (below_size (B2_ HB.out GE491.out GE492.out)) : w.heap.size ≤ gb496))
   replace HB := Aside0.mk (below_step (B2_ HB.out GE491.out GE492.out) hb)
   have NB491_496 := Aside0.mk ((by rw [hg]; exact Nat.ne_of_lt (blk_lt (K_ BK491.out)) : gb491 ≠ gb496))
   have NB496_491 := Aside0.mk ((by rw [hg]; exact Nat.ne_of_gt (blk_lt (K_ BK491.out)) : gb496 ≠ gb491))
   replace BK491 := kb_ BK491 hb
   have NB492_496 := Aside0.mk ((by rw [hg]; exact Nat.ne_of_lt (blk_lt (K_ BK492.out)) : gb492 ≠ gb496))
   have NB496_492 := Aside0.mk ((by rw [hg]; exact Nat.ne_of_gt (blk_lt (K_ BK492.out)) : gb496 ≠ gb492))
   replace BK492 := kb_ BK492 hb
   clear hb hbox hg
   refine hK.out _ _ ⟨(blk_cell BK491.out 0).trans rfl, (blk_cell BK491.out 1).trans rfl, (blk_cell BK491.out 2).trans rfl⟩ (fun hHeld => ?_)
   clear hK K
   refine nm_ (some 3) ?_
   exact norm_ (by simp only [putAll, Act.put, List.setIfInBounds_toArray, List.set_cons_zero, List.set_cons_succ]) (hCont (.slice Ao7 t493.length co7, gb496) _ ⟨hHeld, (R_ HO495.out), (K_ BK491.out), (K_ BK492.out), (K_ BK496.out), GW496.out, GE496.out, NB491_496.out, NB496_491.out, NB492_496.out, NB496_492.out, (B3_ HB.out GE491.out GE492.out GE496.out)⟩)
  ·skip
   refine box_step ?hg (N := 3) ?hd (cs := #[.int .i64 0, .slice none 0 0, .slice none 0 0]) (t := 30) ?hr ?_; (case hd => rfl); (case hg => rfl); (case hr => first | (go_simp; done) | (go_simp; rfl))
   intro gb496 hg w6 hbox hb
   have BK496 := Aside0.mk (hbox)
   have GW496 := Aside0.mk ((by rw [hg]; exact (below_size (B2_ HB.out GE491.out GE492.out)) : w.heap.size ≤ gb496))
   have GE496 := Aside0.mk ((by rw [hg]; exact (below_size (B2_ HB.out GE491.out GE492.out)) : w.heap.size ≤ gb496))
   replace HB := Aside0.mk (below_step (B2_ HB.out GE491.out GE492.out) hb)
   have NB491_496 := Aside0.mk ((by rw [hg]; exact Nat.ne_of_lt (blk_lt (K_ BK491.out)) : gb491 ≠ gb496))
   have NB496_491 := Aside0.mk ((by rw [hg]; exact Nat.ne_of_gt (blk_lt (K_ BK491.out)) : gb496 ≠ gb491))
   replace BK491 := kb_ BK491 hb
   have NB492_496 := Aside0.mk ((by rw [hg]; exact Nat.ne_of_lt (blk_lt (K_ BK492.out)) : gb492 ≠ gb496))
   have NB496_492 := Aside0.mk ((by rw [hg]; exact Nat.ne_of_gt (blk_lt (K_ BK492.out)) : gb496 ≠ gb492))
   replace BK492 := kb_ BK492 hb
   clear hb hbox hg
   refine hK.out _ _ ⟨(blk_cell BK491.out 0).trans rfl, (blk_cell BK491.out 1).trans rfl, (blk_cell BK491.out 2).trans rfl⟩ (fun hHeld => ?_)
   clear hK K
   refine nm_ (some 3) ?_
   refine on_ HT_ (i := 4) (N := some 10) (mk_ 8 95) rfl rfl (fun K hK => ?_)
   refine goes_ Try.func77 (by kernel_rfl) rfl #[.slice A0_1 l0_1.length c0_1] (by rfl) rfl rfl ma_ ?_
   with_reducible refine (impl_cloneStrings.calls _ _ l0_1 t493 _ ?side1 ?side2 A2.out).mono ?_
   (case side1 => exact C_ (Kd.C_below HR0_1.out HB.out))
   (case side2 => exact HC0_1.out)
   rintro e w7 ⟨v494, rfl, ho0, hb⟩
   refine ⟨_, rfl, ?_⟩
   have HO495 := Aside0.mk (Kd.R_lower ho0 (below_size (B3_ HB.out GE491.out GE492.out GE496.out)))
   replace BK491 := kb_ BK491 hb
   replace BK492 := kb_ BK492 hb
   replace BK496 := kb_ BK496 hb
   replace HB := Aside0.mk (below_step (B3_ HB.out GE491.out GE492.out GE496.out) hb)
   (try clear hb)
   (try clear hb2)
   (try clear hk)
   (try clear hi)
   (try clear ho0)
   obtain ⟨Ao8, co8, eo8⟩ := Kd.R_slice HO495.out
   (first | subst eo8 | (injection eo8 with f1_ f2_ f3_; have f4_ := f1_.symm; have f5_ := f3_.symm; clear f1_ f2_ f3_; subst f4_; subst f5_))
   refine hK.out _ _ ⟨(blk_cell BK491.out 0).trans rfl, (blk_cell BK491.out 1).trans rfl, (blk_cell BK491.out 2).trans rfl⟩ (fun hHeld => ?_)
   clear hK K
   refine nm_ (some 10) ?_
   refine pu_ HT_ (i := 5) (N := some 11) (mk_ 8 127) rfl rfl ?_
   exact norm_ (by simp only [putAll, Act.put, List.setIfInBounds_toArray, List.set_cons_zero, List.set_cons_succ]) (hCont (.slice Ao8 t493.length co8, gb496) _ ⟨hHeld, (R_ HO495.out), (K_ BK491.out), (K_ BK492.out), (K_ BK496.out), GW496.out, GE496.out, NB491_496.out, NB496_491.out, NB492_496.out, NB496_492.out, (B3_ HB.out GE491.out GE492.out GE496.out)⟩)
 rintro ⟨v494, gb496⟩ w9 ⟨hS_, h0_, h1_, h2_, h3_, h4_, h5_, h6_, h7_, h8_, h9_, h10_⟩
 have n0_ : Aside0 (Kd.R Kd.string 9 w9 w.heap.size (fun _ => True) v494 t493) := ⟨h0_⟩
 have n1_ : Aside0 (w9.heap[gb491]? = some (.cells #[.int .i64 a0_0, .slice A0_1 l0_1.length c0_1, .slice A0_2 l0_2.length c0_2] 30 (0, 0))) := ⟨h1_⟩
 have n2_ : Aside0 (w9.heap[gb492]? = some (.cells #[.int .i64 0, .slice none 0 0, .slice none 0 0] 30 (0, 0))) := ⟨h2_⟩
 have n3_ : Aside0 (w9.heap[gb496]? = some (.cells #[.int .i64 0, .slice none 0 0, .slice none 0 0] 30 (0, 0))) := ⟨h3_⟩
 have n4_ : Aside0 (w.heap.size ≤ gb496) := ⟨h4_⟩
 have n5_ : Aside0 (w.heap.size ≤ gb496) := ⟨h5_⟩
 have n6_ : Aside0 (gb491 ≠ gb496) := ⟨h6_⟩
 have n7_ : Aside0 (gb496 ≠ gb491) := ⟨h7_⟩
 have n8_ : Aside0 (gb492 ≠ gb496) := ⟨h8_⟩
 have n9_ : Aside0 (gb496 ≠ gb492) := ⟨h9_⟩
 have n10_ : Aside0 (Below w.heap.size w w9) := ⟨h10_⟩
 clear BK491
 clear BK492
 clear HB
 clear h0_ h1_ h2_ h3_ h4_ h5_ h6_ h7_ h8_ h9_ h10_
 have HO495 := n0_
 have BK491 := n1_
 have BK492 := n2_
 have BK496 := n3_
 have GW496 := n4_
 have GE496 := n5_
 have NB491_496 := n6_
 have NB496_491 := n7_
 have NB492_496 := n8_
 have NB496_492 := n9_
 have HB := n10_
 clear n0_ n1_ n2_ n3_ n4_ n5_ n6_ n7_ n8_ n9_ n10_
 have hHeld : w9.cell? ⟨gb491, 0, none⟩ = some (.int .i64 a0_0) ∧ w9.cell? ⟨gb491, 1, none⟩ = some (.slice A0_1 l0_1.length c0_1) ∧ w9.cell? ⟨gb491, 2, none⟩ = some (.slice A0_2 l0_2.length c0_2) := hS_
 obtain ⟨Ao10, co10, eo10⟩ := Kd.R_slice HO495.out
 (first | subst eo10 | (injection eo10 with f1_ f2_ f3_; have f4_ := f1_.symm; have f5_ := f3_.symm; clear f1_ f2_ f3_; subst f4_; subst f5_))
 refine norm_ (a' := ?_) ?_ ?_
 rotate_left
 ·simp only [putAll, Act.put, List.setIfInBounds_toArray, List.set_cons_zero, List.set_cons_succ]
  rfl
 refine on_ HT_ (i := 7) (N := none) (mk_ 8 255) rfl rfl (fun K hK => ?_)
 have hs11 : w9.cell? ⟨gb496, 0, none⟩ = some (.int .i64 0) := (blk_cell BK496.out 0).trans rfl
 have hfs11 := blk_frozen BK496.out 0
 have hns11_0 := NB491_496.out
 have hns11_1 := NB492_496.out
 have hms11_0 := NB496_491.out
 have hms11_1 := NB496_492.out
 have hs12 : w9.cell? ⟨gb496, 1, none⟩ = some (.slice none 0 0) := (blk_cell BK496.out 1).trans rfl
 have hfs12 := blk_frozen BK496.out 1
 have hns12_0 := NB491_496.out
 have hns12_1 := NB492_496.out
 have hms12_0 := NB496_491.out
 have hms12_1 := NB496_492.out
 have hs13 : w9.cell? ⟨gb496, 2, none⟩ = some (.slice none 0 0) := (blk_cell BK496.out 2).trans rfl
 have hfs13 := blk_frozen BK496.out 2
 have hns13_0 := NB491_496.out
 have hns13_1 := NB492_496.out
 have hms13_0 := NB496_491.out
 have hms13_1 := NB496_492.out
 refine skip_ (w1 := ?_) (by rfl) rfl ?_ ?_
 rotate_left
 ·go_simp
  rfl
 refine hK.out _ _ ⟨((cell_far (p := ⟨gb496, _, none⟩) NB491_496.out _).trans (((cell_far (p := ⟨gb496, _, none⟩) NB491_496.out _).trans (((cell_far (p := ⟨gb496, _, none⟩) NB491_496.out _).trans (hHeld.1)))))), ((cell_far (p := ⟨gb496, _, none⟩) NB491_496.out _).trans (((cell_far (p := ⟨gb496, _, none⟩) NB491_496.out _).trans (((cell_far (p := ⟨gb496, _, none⟩) NB491_496.out _).trans (hHeld.2.1)))))), ((cell_far (p := ⟨gb496, _, none⟩) NB491_496.out _).trans (((cell_far (p := ⟨gb496, _, none⟩) NB491_496.out _).trans (((cell_far (p := ⟨gb496, _, none⟩) NB491_496.out _).trans (hHeld.2.2))))))⟩ (fun hHeld => ?_)
 clear hK K
 refine done_ (done_of HT_.out (by kernel_rfl)) ?_
 have hnb14 := NB491_492.out
 have hnc14 := NB492_491.out
 have hnb15 := NB491_496.out
 have hnc15 := NB496_491.out
 obtain ⟨hcz16_0, hcz16_1, hcz16_2, hfz16_0, hfz16_1, hfz16_2⟩ := box3_ BK491.out
 try go_wp2
 go_loopg [15] k (fun kq v15 w' => ∃ (x15_1 : Int) (x497002_1 : List (S30)) (u497002 : Value), v15 = .int .i64 x15_1 ∧ Aside0 (impl_cloneType.l0 kq l0_2 (l0_2.length : Int) x15_1 a0_0 t493 x497002_1 = some (r1, r2, r3)) ∧ Aside0 (kq ≤ k) ∧ Aside0 (Kd.R Kd.string 9 w' w.heap.size (fun _ => True) (.slice Ao10 t493.length co10) t493) ∧ Aside0 (Kd.R k30 30 w' w.heap.size (fun k_ => some k_ ≠ ((.slice Ao10 t493.length co10) : Value).ownBlock ∧ k_ ≠ gb491 ∧ k_ ≠ gb492 ∧ k_ ≠ gb496) u497002 x497002_1) ∧ Aside0 (w'.heap[gb491]? = some (.cells #[.int .i64 a0_0, (.slice A0_1 l0_1.length c0_1), (.slice A0_2 l0_2.length c0_2)] 30 (0, 0))) ∧ Aside0 (w'.heap[gb492]? = some (.cells #[.int .i64 0, (.slice none 0 0), (.slice none 0 0)] 30 (0, 0))) ∧ Aside0 (w'.heap[gb496]? = some (.cells #[.int .i64 a0_0, (.slice Ao10 t493.length co10), u497002] 30 (0, 0))) ∧ Aside0 (Below w.heap.size w w'))
 case atStart => exact ⟨(0), (([] : List (S30))), (.slice none 0 0), q_, H', ⟨Nat.le_refl _⟩, ⟨by (with_reducible repeat (first | apply Kd.R_alloc | apply Kd.R_drewN | apply Kd.R_drew)); exact Kd.R_mono (Kd.R_far (p := ⟨gb496, 2, none⟩) (Kd.R_far (p := ⟨gb496, 1, none⟩) (Kd.R_far (p := ⟨gb496, 0, none⟩) (Kd.R_types HO495.out BK496.out (by decide)) (fun _ hk => hk.2) (.int .i64 a0_0)) (fun _ hk => hk.2) (.slice Ao10 t493.length co10)) (fun _ hk => hk.2) (.slice none 0 0)) (fun _ hk => trivial)⟩, ⟨by first | exact Kd.R_nil _ _ _ _ _ | exact Kd.N_nil _ _ _ _ _ | exact Kd.V_nil _ _ _ _ _ | exact Kd.Q_nil _ _ _ _ _ | exact Kd.S_nil _ _ _ _ _⟩, ⟨by (with_reducible repeat (first | refine blk_drewN ?_ _ | refine blk_drew ?_ | refine blk_alloc ?_ _)); refine blk_far ?_ NB491_496.out _; (with_reducible repeat (first | refine blk_drewN ?_ _ | refine blk_drew ?_ | refine blk_alloc ?_ _)); refine blk_far ?_ NB491_496.out _; (with_reducible repeat (first | refine blk_drewN ?_ _ | refine blk_drew ?_ | refine blk_alloc ?_ _)); refine blk_far ?_ NB491_496.out _; (with_reducible repeat (first | refine blk_drewN ?_ _ | refine blk_drew ?_ | refine blk_alloc ?_ _)); exact BK491.out⟩, ⟨by (with_reducible repeat (first | refine blk_drewN ?_ _ | refine blk_drew ?_ | refine blk_alloc ?_ _)); refine blk_far ?_ NB492_496.out _; (with_reducible repeat (first | refine blk_drewN ?_ _ | refine blk_drew ?_ | refine blk_alloc ?_ _)); refine blk_far ?_ NB492_496.out _; (with_reducible repeat (first | refine blk_drewN ?_ _ | refine blk_drew ?_ | refine blk_alloc ?_ _)); refine blk_far ?_ NB492_496.out _; (with_reducible repeat (first | refine blk_drewN ?_ _ | refine blk_drew ?_ | refine blk_alloc ?_ _)); exact BK492.out⟩, ⟨by (with_reducible repeat (first | refine blk_drewN ?_ _ | refine blk_drew ?_ | refine blk_alloc ?_ _)); refine blk_put (cs := #[.int .i64 a0_0, .slice Ao10 t493.length co10, .slice none 0 0]) ?_ 2 _ rfl; (with_reducible repeat (first | refine blk_drewN ?_ _ | refine blk_drew ?_ | refine blk_alloc ?_ _)); refine blk_put (cs := #[.int .i64 a0_0, .slice none 0 0, .slice none 0 0]) ?_ 1 _ rfl; (with_reducible repeat (first | refine blk_drewN ?_ _ | refine blk_drew ?_ | refine blk_alloc ?_ _)); refine blk_put (cs := #[.int .i64 0, .slice none 0 0, .slice none 0 0]) ?_ 0 _ rfl; (with_reducible repeat (first | refine blk_drewN ?_ _ | refine blk_drew ?_ | refine blk_alloc ?_ _)); exact BK496.out⟩, ⟨B3_ HB.out GE491.out GE492.out GE496.out⟩⟩
 case round =>
  clear H'
  try clear hcz16_0
  try clear hcz16_1
  try clear hcz16_2
  try clear hfz16_0
  try clear hfz16_1
  try clear hfz16_2
  obtain ⟨x15_1, x497002_1, u497002, rfl, HA, HK1, HO_497001, HO_497002, BK491, BK492, BK496, HB⟩ := hrel
  cases gk with
  | zero => exact absurd HA.out (by simp [impl_cloneType.l0])
  | succ k1 =>
   have H := HA.out
   clear HA
   simp only [impl_cloneType.l0] at H
   by_cases c17 : x15_1 < (l0_2.length : Int)
   ·rw [if_pos c17] at H
    have c17b0 : decide (x15_1 < (l0_2.length : Int)) = true := decide_eq_true c17
    clear c17
    by_cases c18 : 0 ≤ x15_1
    ·rw [if_pos c18] at H
     have c18b0 : decide (0 ≤ x15_1) = true := decide_eq_true c18
     clear c18
     by_cases c19 : x15_1 < (l0_2.length : Int)
     ·rw [if_pos c19] at H
      have c19b0 : decide (x15_1 < (l0_2.length : Int)) = true := decide_eq_true c19
      clear c19
      replace H := Option.bind_eq_some_iff.mp H
      obtain ⟨⟨t499, t500, t503⟩, A200, H⟩ := H
      replace H : (if x497002_1.length < 2513169434916 then (impl_cloneType.l0 k1 l0_2 (l0_2.length : Int) (wrap64 (x15_1 + 1)) a0_0 t493 (x497002_1 ++ [(⟨t499, t500, t503⟩ : S30)])) else (none)) = some (r1, r2, r3) := H
      have A20 := Aside0.mk A200
      clear A200
      by_cases c21 : x497002_1.length < 2513169434916
      ·rw [if_pos c21] at H
       have LMc21 := Aside0.mk c21
       clear c21
       obtain ⟨y506, hy506⟩ : ∃ y_ : List (S30), y_ = (x497002_1 ++ [(⟨t499, t500, t503⟩ : S30)]) := ⟨_, rfl⟩
       replace H : (impl_cloneType.l0 k1 l0_2 (l0_2.length : Int) (wrap64 (x15_1 + 1)) a0_0 t493 y506) = some (r1, r2, r3) := by first | (rw [hy506]; with_reducible exact H) | (have H2_ := (Option.bind_some _ _).symm.trans H; rw [hy506]; with_reducible exact H2_) | (have H2_ := (Option.bind_some _ _).symm.trans H; with_reducible exact H2_) | with_reducible exact H | (rw [hy506]; exact H) | exact H
       have Ny506 := Aside0.mk hy506
       clear hy506
       have H' := Aside0.mk H
       clear H
       have p497 : 0 ≤ (x15_1 : Int) := de_
       have q497 : x15_1 < (l0_2.length : Int) := de_
       obtain ⟨ad497, A497_1, c497_1, A497_2, c497_2, e497, hx497_0, hx497_1, hx497_2, hl497_1, hi497_1, hl497_2, hi497_2⟩ := at_T30 HR0_2.out x15_1 p497 q497
       cases e497
       replace hx497_0 := (HB.out.cell (World.block_lt_of_cell? w _ hx497_0)).trans hx497_0
       replace hx497_1 := (HB.out.cell (World.block_lt_of_cell? w _ hx497_1)).trans hx497_1
       replace hx497_2 := (HB.out.cell (World.block_lt_of_cell? w _ hx497_2)).trans hx497_2
       have HR497_1 := Aside0.mk hi497_1
       have HC497_1 := Aside0.mk hl497_1
       clear hi497_1 hl497_1
       have HR497_2 := Aside0.mk hi497_2
       have HC497_2 := Aside0.mk hl497_2
       clear hi497_2 hl497_2
       replace p497 := eq_true p497
       replace q497 := eq_true q497
       try go_wp2_with (first | ((with_reducible refine gate_dst (N := 5) rfl ?_); refine box_event ?hg (N := 5) ?hd (cs := #[.int .i64 0, .slice none 0 0, .slice none 0 0]) (t := 30) ?hr ?_; (case hd => rfl); (case hg => rfl); (case hr => first | (go_simp; done) | (go_simp; rfl)); intro gb498 hg w22 hbox hb; replace HO_497001 := rb_ HO_497001 hb; replace HO_497002 := Aside0.mk (Kd.R_below (Kd.R_elderB (R_ HO_497002.out) gb498 (Nat.le_of_eq hg.symm)) hb); have BK498 := Aside0.mk (hbox); have GW498 := Aside0.mk ((by rw [hg]; exact (below_size (B3_ HB.out GE491.out GE492.out GE496.out)) : w.heap.size ≤ gb498)); have GE498 := Aside0.mk ((by rw [hg]; exact (below_size (B3_ HB.out GE491.out GE492.out GE496.out)) : w.heap.size ≤ gb498)); replace HB := Aside0.mk (below_step (B3_ HB.out GE491.out GE492.out GE496.out) hb); have NB491_498 := Aside0.mk ((by rw [hg]; exact Nat.ne_of_lt (blk_lt (K_ BK491.out)) : gb491 ≠ gb498)); have NB498_491 := Aside0.mk ((by rw [hg]; exact Nat.ne_of_gt (blk_lt (K_ BK491.out)) : gb498 ≠ gb491)); replace BK491 := kb_ BK491 hb; have NB492_498 := Aside0.mk ((by rw [hg]; exact Nat.ne_of_lt (blk_lt (K_ BK492.out)) : gb492 ≠ gb498)); have NB498_492 := Aside0.mk ((by rw [hg]; exact Nat.ne_of_gt (blk_lt (K_ BK492.out)) : gb498 ≠ gb492)); replace BK492 := kb_ BK492 hb; have NB496_498 := Aside0.mk ((by rw [hg]; exact Nat.ne_of_lt (blk_lt (K_ BK496.out)) : gb496 ≠ gb498)); have NB498_496 := Aside0.mk ((by rw [hg]; exact Nat.ne_of_gt (blk_lt (K_ BK496.out)) : gb498 ≠ gb496)); replace BK496 := kb_ BK496 hb; clear hb hbox hg; have hnb23 := NB498_491.out; have hnc23 := NB491_498.out; have hnb24 := NB498_492.out; have hnc24 := NB492_498.out; have hnb25 := NB498_496.out; have hnc25 := NB496_498.out; obtain ⟨hcz26_0, hcz26_1, hcz26_2, hfz26_0, hfz26_1, hfz26_2⟩ := box3_ BK498.out))
       have n0_ : Aside0 (Kd.R Kd.string 9 (((w22.setCell ⟨gb498, 0, none⟩ (.int .i64 ((rd_T30 l0_2 x15_1).f0))).setCell ⟨gb498, 1, none⟩ (.slice A497_1 ((rd_T30 l0_2 x15_1).f1).length c497_1)).setCell ⟨gb498, 2, none⟩ (.slice A497_2 ((rd_T30 l0_2 x15_1).f2).length c497_2)) w.heap.size (fun _ => True) (.slice Ao10 t493.length co10) t493) := ⟨by (with_reducible repeat (first | apply Kd.R_alloc | apply Kd.R_drewN | apply Kd.R_drew)); exact Kd.R_mono (Kd.R_far (p := ⟨gb498, 2, none⟩) (Kd.R_far (p := ⟨gb498, 1, none⟩) (Kd.R_far (p := ⟨gb498, 0, none⟩) (Kd.R_types HO_497001.out BK498.out (by decide)) (fun _ hk => hk.2) (.int .i64 ((rd_T30 l0_2 x15_1).f0))) (fun _ hk => hk.2) (.slice A497_1 ((rd_T30 l0_2 x15_1).f1).length c497_1)) (fun _ hk => hk.2) (.slice A497_2 ((rd_T30 l0_2 x15_1).f2).length c497_2)) (fun _ hk => trivial)⟩
       have n1_ : Aside0 (Kd.R k30 30 (((w22.setCell ⟨gb498, 0, none⟩ (.int .i64 ((rd_T30 l0_2 x15_1).f0))).setCell ⟨gb498, 1, none⟩ (.slice A497_1 ((rd_T30 l0_2 x15_1).f1).length c497_1)).setCell ⟨gb498, 2, none⟩ (.slice A497_2 ((rd_T30 l0_2 x15_1).f2).length c497_2)) w.heap.size (fun k_ => some k_ ≠ (.slice Ao10 t493.length co10 : Value).ownBlock ∧ k_ ≠ gb491 ∧ k_ ≠ gb492 ∧ k_ ≠ gb496 ∧ k_ ≠ gb498) u497002 x497002_1) := ⟨by (with_reducible repeat (first | apply Kd.R_alloc | apply Kd.R_drewN | apply Kd.R_drew)); exact Kd.R_mono (Kd.R_far (p := ⟨gb498, 2, none⟩) (Kd.R_far (p := ⟨gb498, 1, none⟩) (Kd.R_far (p := ⟨gb498, 0, none⟩) (Kd.R_mono HO_497002.out (fun k_ hk => (⟨hk, hk.2⟩ : _ ∧ k_ ≠ gb498))) (fun _ hk => hk.2) (.int .i64 ((rd_T30 l0_2 x15_1).f0))) (fun _ hk => hk.2) (.slice A497_1 ((rd_T30 l0_2 x15_1).f1).length c497_1)) (fun _ hk => hk.2) (.slice A497_2 ((rd_T30 l0_2 x15_1).f2).length c497_2)) (fun _ hk => ⟨hk.1.1.1, ⟨hk.1.1.2.1, ⟨hk.1.1.2.2.1, ⟨hk.1.1.2.2.2, hk.1.2⟩⟩⟩⟩)⟩
       have n2_ : Aside0 ((((w22.setCell ⟨gb498, 0, none⟩ (.int .i64 ((rd_T30 l0_2 x15_1).f0))).setCell ⟨gb498, 1, none⟩ (.slice A497_1 ((rd_T30 l0_2 x15_1).f1).length c497_1)).setCell ⟨gb498, 2, none⟩ (.slice A497_2 ((rd_T30 l0_2 x15_1).f2).length c497_2)).heap[gb491]? = some (.cells #[.int .i64 a0_0, .slice A0_1 l0_1.length c0_1, .slice (some ad497) l0_2.length c0_2] 30 (0, 0))) := ⟨by (with_reducible repeat (first | refine blk_drewN ?_ _ | refine blk_drew ?_ | refine blk_alloc ?_ _)); refine blk_far ?_ NB491_498.out _; (with_reducible repeat (first | refine blk_drewN ?_ _ | refine blk_drew ?_ | refine blk_alloc ?_ _)); refine blk_far ?_ NB491_498.out _; (with_reducible repeat (first | refine blk_drewN ?_ _ | refine blk_drew ?_ | refine blk_alloc ?_ _)); refine blk_far ?_ NB491_498.out _; (with_reducible repeat (first | refine blk_drewN ?_ _ | refine blk_drew ?_ | refine blk_alloc ?_ _)); exact BK491.out⟩
       have n3_ : Aside0 ((((w22.setCell ⟨gb498, 0, none⟩ (.int .i64 ((rd_T30 l0_2 x15_1).f0))).setCell ⟨gb498, 1, none⟩ (.slice A497_1 ((rd_T30 l0_2 x15_1).f1).length c497_1)).setCell ⟨gb498, 2, none⟩ (.slice A497_2 ((rd_T30 l0_2 x15_1).f2).length c497_2)).heap[gb492]? = some (.cells #[.int .i64 0, .slice none 0 0, .slice none 0 0] 30 (0, 0))) := ⟨by (with_reducible repeat (first | refine blk_drewN ?_ _ | refine blk_drew ?_ | refine blk_alloc ?_ _)); refine blk_far ?_ NB492_498.out _; (with_reducible repeat (first | refine blk_drewN ?_ _ | refine blk_drew ?_ | refine blk_alloc ?_ _)); refine blk_far ?_ NB492_498.out _; (with_reducible repeat (first | refine blk_drewN ?_ _ | refine blk_drew ?_ | refine blk_alloc ?_ _)); refine blk_far ?_ NB492_498.out _; (with_reducible repeat (first | refine blk_drewN ?_ _ | refine blk_drew ?_ | refine blk_alloc ?_ _)); exact BK492.out⟩
       have n4_ : Aside0 ((((w22.setCell ⟨gb498, 0, none⟩ (.int .i64 ((rd_T30 l0_2 x15_1).f0))).setCell ⟨gb498, 1, none⟩ (.slice A497_1 ((rd_T30 l0_2 x15_1).f1).length c497_1)).setCell ⟨gb498, 2, none⟩ (.slice A497_2 ((rd_T30 l0_2 x15_1).f2).length c497_2)).heap[gb496]? = some (.cells #[.int .i64 a0_0, .slice Ao10 t493.length co10, u497002] 30 (0, 0))) := ⟨by (with_reducible repeat (first | refine blk_drewN ?_ _ | refine blk_drew ?_ | refine blk_alloc ?_ _)); refine blk_far ?_ NB496_498.out _; (with_reducible repeat (first | refine blk_drewN ?_ _ | refine blk_drew ?_ | refine blk_alloc ?_ _)); refine blk_far ?_ NB496_498.out _; (with_reducible repeat (first | refine blk_drewN ?_ _ | refine blk_drew ?_ | refine blk_alloc ?_ _)); refine blk_far ?_ NB496_498.out _; (with_reducible repeat (first | refine blk_drewN ?_ _ | refine blk_drew ?_ | refine blk_alloc ?_ _)); exact BK496.out⟩
       have n5_ : Aside0 ((((w22.setCell ⟨gb498, 0, none⟩ (.int .i64 ((rd_T30 l0_2 x15_1).f0))).setCell ⟨gb498, 1, none⟩ (.slice A497_1 ((rd_T30 l0_2 x15_1).f1).length c497_1)).setCell ⟨gb498, 2, none⟩ (.slice A497_2 ((rd_T30 l0_2 x15_1).f2).length c497_2)).heap[gb498]? = some (.cells #[.int .i64 ((rd_T30 l0_2 x15_1).f0), .slice A497_1 ((rd_T30 l0_2 x15_1).f1).length c497_1, .slice A497_2 ((rd_T30 l0_2 x15_1).f2).length c497_2] 30 (0, 0))) := ⟨by (with_reducible repeat (first | refine blk_drewN ?_ _ | refine blk_drew ?_ | refine blk_alloc ?_ _)); refine blk_put (cs := #[.int .i64 ((rd_T30 l0_2 x15_1).f0), .slice A497_1 ((rd_T30 l0_2 x15_1).f1).length c497_1, .slice none 0 0]) ?_ 2 _ rfl; (with_reducible repeat (first | refine blk_drewN ?_ _ | refine blk_drew ?_ | refine blk_alloc ?_ _)); refine blk_put (cs := #[.int .i64 ((rd_T30 l0_2 x15_1).f0), .slice none 0 0, .slice none 0 0]) ?_ 1 _ rfl; (with_reducible repeat (first | refine blk_drewN ?_ _ | refine blk_drew ?_ | refine blk_alloc ?_ _)); refine blk_put (cs := #[.int .i64 0, .slice none 0 0, .slice none 0 0]) ?_ 0 _ rfl; (with_reducible repeat (first | refine blk_drewN ?_ _ | refine blk_drew ?_ | refine blk_alloc ?_ _)); exact BK498.out⟩
       have n6_ : Aside0 (Below w.heap.size w (((w22.setCell ⟨gb498, 0, none⟩ (.int .i64 ((rd_T30 l0_2 x15_1).f0))).setCell ⟨gb498, 1, none⟩ (.slice A497_1 ((rd_T30 l0_2 x15_1).f1).length c497_1)).setCell ⟨gb498, 2, none⟩ (.slice A497_2 ((rd_T30 l0_2 x15_1).f2).length c497_2))) := ⟨B4_ HB.out GE491.out GE492.out GE496.out GE498.out⟩
       (try clear HO_497001)
       (try clear HO_497002)
       (try clear BK491)
       (try clear BK492)
       (try clear BK496)
       (try clear BK498)
       (try clear HB)
       generalize (((w22.setCell ⟨gb498, 0, none⟩ (.int .i64 ((rd_T30 l0_2 x15_1).f0))).setCell ⟨gb498, 1, none⟩ (.slice A497_1 ((rd_T30 l0_2 x15_1).f1).length c497_1)).setCell ⟨gb498, 2, none⟩ (.slice A497_2 ((rd_T30 l0_2 x15_1).f2).length c497_2)) = w27 at n0_ n1_ n2_ n3_ n4_ n5_ n6_ ⊢
       have HO_497001 := n0_
       have HO_497002 := n1_
       have BK491 := n2_
       have BK492 := n3_
       have BK496 := n4_
       have BK498 := n5_
       have HB := n6_
       clear n0_ n1_ n2_ n3_ n4_ n5_ n6_
       replace HO_497001 := Aside0.mk (Kd.R_drew HO_497001.out)
       replace HO_497002 := Aside0.mk (Kd.R_drew HO_497002.out)
       replace BK491 := Aside0.mk (blk_drew BK491.out)
       replace BK492 := Aside0.mk (blk_drew BK492.out)
       replace BK496 := Aside0.mk (blk_drew BK496.out)
       replace BK498 := Aside0.mk (blk_drew BK498.out)
       replace HB := Aside0.mk (below_drew1 HB.out)
       refine start_ (n := 8) (S := fun w' => w'.cell? ⟨gb496, 0, none⟩ = some (.int .i64 a0_0) ∧ w'.cell? ⟨gb496, 1, none⟩ = some (.slice Ao10 t493.length co10) ∧ w'.cell? ⟨gb496, 2, none⟩ = some (u497002) ∧ w'.cell? ⟨gb498, 0, none⟩ = some (.int .i64 ((rd_T30 l0_2 x15_1).f0)) ∧ w'.cell? ⟨gb498, 1, none⟩ = some (.slice A497_1 ((rd_T30 l0_2 x15_1).f1).length c497_1) ∧ w'.cell? ⟨gb498, 2, none⟩ = some (.slice A497_2 ((rd_T30 l0_2 x15_1).f2).length c497_2)) (ds := [7]) #[false, false, false, false, false, false, false, false] (by kernel_rfl) rfl rfl ⟨(blk_cell BK496.out 0).trans rfl, (blk_cell BK496.out 1).trans rfl, (blk_cell BK496.out 2).trans rfl, (blk_cell BK498.out 0).trans rfl, (blk_cell BK498.out 1).trans rfl, (blk_cell BK498.out 2).trans rfl⟩ (fun hHeld => ?_); refine with_tabW impl_cloneType.tab5 impl_cloneType.bits5 (fun HT_ HW_ => ?_)
       generalize w27.drew = w28 at HO_497001 HO_497002 BK491 BK492 BK496 BK498 HB hHeld ⊢
       refine pu_ HT_ (i := 0) (N := some 19) (mk_ 8 1) rfl rfl ?_
       refine tk_ HT_ HW_ hHeld (i := 1) (N := some 20) (mk_ 8 3) rfl rfl ?_
       refine tk_ HT_ HW_ hHeld (i := 2) (N := some 21) (mk_ 8 7) rfl rfl ?_
       refine on_ HT_ (i := 3) (N := some 22) (mk_ 8 15) rfl rfl (fun K hK => ?_)
       refine goes_ Try.func60 (by kernel_rfl) rfl #[.agg #[.int .i64 ((rd_T30 l0_2 x15_1).f0), .slice A497_1 ((rd_T30 l0_2 x15_1).f1).length c497_1, .slice A497_2 ((rd_T30 l0_2 x15_1).f2).length c497_2]] (by rfl) rfl rfl ma_ ?_
       with_reducible refine (ih k1 (by have := HK1.out; omega) ((rd_T30 l0_2 x15_1).f0) _ _ ((rd_T30 l0_2 x15_1).f1) _ _ ((rd_T30 l0_2 x15_1).f2) t499 t500 t503 _ ?side1 ?side2 ?side3 ?side4 A20.out).mono ?_
       (case side1 => exact C_ (Kd.C_below HR497_1.out HB.out))
       (case side2 => exact HC497_1.out)
       (case side3 => exact C_ (Kd.C_below HR497_2.out HB.out))
       (case side4 => exact HC497_2.out)
       rintro e w29 ⟨v501, v504, rfl, ho0, ho1, hb⟩
       refine ⟨_, rfl, ?_⟩
       have HO502 := Aside0.mk (Kd.R_lower (Kd.R_new' ho0 (Kd.R_lt (R_ HO_497001.out))) (below_size (B4_ HB.out GE491.out GE492.out GE496.out GE498.out)))
       have HO505 := Aside0.mk (Kd.R_lower (Kd.R_newB (Kd.R_newB (Kd.R_newB (Kd.R_newB (Kd.R_new' (Kd.R_new' ho1 (Kd.R_lt (R_ HO_497001.out))) (Kd.R_lt (R_ HO_497002.out))) (g := gb491) (o := .cells #[.int .i64 a0_0, .slice A0_1 l0_1.length c0_1, .slice (some ad497) l0_2.length c0_2] 30 (0, 0)) (K_ BK491.out)) (g := gb492) (o := .cells #[.int .i64 0, .slice none 0 0, .slice none 0 0] 30 (0, 0)) (K_ BK492.out)) (g := gb496) (o := .cells #[.int .i64 a0_0, .slice Ao10 t493.length co10, u497002] 30 (0, 0)) (K_ BK496.out)) (g := gb498) (o := .cells #[.int .i64 ((rd_T30 l0_2 x15_1).f0), .slice A497_1 ((rd_T30 l0_2 x15_1).f1).length c497_1, .slice A497_2 ((rd_T30 l0_2 x15_1).f2).length c497_2] 30 (0, 0)) (K_ BK498.out)) (below_size (B4_ HB.out GE491.out GE492.out GE496.out GE498.out)))
       replace HO_497001 := Aside0.mk (Kd.R_elder' (R_ HO_497001.out) (Kd.R_base ho0) hb)
       replace HO_497002 := Aside0.mk (Kd.R_mono (Kd.R_told (Kd.R_told (Kd.R_old (R_ HO_497002.out) hb) (Kd.R_base ho0)) (Kd.R_base ho1)) (fun _ h_ => h_.1))
       replace BK491 := kb_ BK491 hb
       replace BK492 := kb_ BK492 hb
       replace BK496 := kb_ BK496 hb
       replace BK498 := kb_ BK498 hb
       replace HB := Aside0.mk (below_step (B4_ HB.out GE491.out GE492.out GE496.out GE498.out) hb)
       (try clear hb)
       (try clear hb2)
       (try clear hk)
       (try clear hi)
       (try clear ho0)
       (try clear ho1)
       obtain ⟨Ao31, co31, eo31⟩ := Kd.R_slice HO502.out
       (first | subst eo31 | (injection eo31 with f1_ f2_ f3_; have f4_ := f1_.symm; have f5_ := f3_.symm; clear f1_ f2_ f3_; subst f4_; subst f5_))
       obtain ⟨Ao32, co32, eo32⟩ := Kd.R_slice HO505.out
       (first | subst eo32 | (injection eo32 with f1_ f2_ f3_; have f4_ := f1_.symm; have f5_ := f3_.symm; clear f1_ f2_ f3_; subst f4_; subst f5_))
       refine hK.out _ _ ⟨(blk_cell BK496.out 0).trans rfl, (blk_cell BK496.out 1).trans rfl, (blk_cell BK496.out 2).trans rfl, (blk_cell BK498.out 0).trans rfl, (blk_cell BK498.out 1).trans rfl, (blk_cell BK498.out 2).trans rfl⟩ (fun hHeld => ?_)
       clear hK K
       refine nm_ (some 22) ?_
       refine on_ HT_ (i := 4) (N := some 23) (mk_ 8 31) rfl rfl (fun K hK => ?_)
       refine value_ (w1 := ?_) (v := ?_) (by rfl) rfl ?_ ?_
       rotate_left 2
       ·go_simp
        constructor
        ·rfl
        ·rfl
       refine hK.out _ _ ⟨(blk_cell (blk_alloc BK496.out _) 0).trans rfl, (blk_cell (blk_alloc BK496.out _) 1).trans rfl, (blk_cell (blk_alloc BK496.out _) 2).trans rfl, (blk_cell (blk_alloc BK498.out _) 0).trans rfl, (blk_cell (blk_alloc BK498.out _) 1).trans rfl, (blk_cell (blk_alloc BK498.out _) 2).trans rfl⟩ (fun hHeld => ?_)
       clear hK K
       refine nm_ (some 23) ?_
       refine on_ HT_ (i := 5) (N := some 24) (mk_ 8 63) rfl rfl (fun K hK => ?_)
       refine Kd.R_append_step k30 (w0 := w) w.heap.size (by rfl) (.tmp 20) (.tmp 23) 28 30 (.agg #[(.int .i64 0), (.slice none 0 0), (.slice none 0 0)]) 56 rfl Try.underlying28 info30 rfl (by decide) (by omega) u497002 x497002_1 (⟨t499, t500, t503⟩ : S30) [.int .i64 t499, .slice Ao31 t500.length co31, .slice Ao32 t503.length co32] (fun k_ => some k_ ≠ (.slice Ao10 t493.length co10 : Value).ownBlock ∧ k_ ≠ gb491 ∧ k_ ≠ gb492 ∧ k_ ≠ gb496 ∧ k_ ≠ gb498) (fun k_ => ((fun k_ => some k_ ≠ (.slice Ao10 t493.length co10 : Value).ownBlock ∧ k_ ≠ gb491 ∧ k_ ≠ gb492 ∧ k_ ≠ gb496 ∧ k_ ≠ gb498)) k_ ∧ some k_ ≠ (u497002 : Value).ownBlock) rfl rfl ?aP (fun _ hk => hk) ?aF ?aO ?aB ?aS ?aL ?_
       (case aP => exact k30_mkM _ _ _ (⟨t499, t500, t503⟩ : S30) (Kd.R_mono (Kd.R_types (Kd.R_types (Kd.R_types (Kd.R_types (Kd.R_apart' (HO502.out) (Kd.R_typed HO_497002.out) (by decide)) BK491.out (by decide)) BK492.out (by decide)) BK496.out (by decide)) BK498.out (by decide)) (fun k_ hk => ⟨⟨hk.1.1.1.1.1.2, ⟨hk.1.1.1.2, ⟨hk.1.1.2, ⟨hk.1.2, hk.2⟩⟩⟩⟩, hk.1.1.1.1.2⟩)) (Kd.R_mono (HO505.out) (fun k_ hk => ⟨⟨hk.1.1.1.1.1.2, ⟨hk.1.1.1.2, ⟨hk.1.1.2, ⟨hk.1.2, hk.2⟩⟩⟩⟩, hk.1.1.1.1.2⟩)))
       (case aB => exact (B4_ HB.out GE491.out GE492.out GE496.out GE498.out))
       (case aF => exact (fun k_ hk => ⟨Kd.fresh' (Kd.R_lt (R_ HO_497001.out)) k_ hk, Kd.freshB (K_ BK491.out) k_ hk, Kd.freshB (K_ BK492.out) k_ hk, Kd.freshB (K_ BK496.out) k_ hk, Kd.freshB (K_ BK498.out) k_ hk⟩))
       (case aO => exact (by (with_reducible repeat (first | apply Kd.R_alloc | apply Kd.R_drewN | apply Kd.R_drew)); exact Kd.R_mono HO_497002.out (fun _ hk => ⟨hk.1.1.1, ⟨hk.1.1.2.1, ⟨hk.1.1.2.2.1, ⟨hk.1.1.2.2.2.1, hk.1.1.2.2.2.2⟩⟩⟩⟩)))
       (case aS => exact (below_size (B4_ HB.out GE491.out GE492.out GE496.out GE498.out)))
       (case aL => have := LMc21.out; omega)
       intro v507 w30 ho hb hg hat
       rw [← Ny506.out] at ho
       replace HO_497001 := Aside0.mk (Kd.R_over' (R_ HO_497001.out) (Kd.R_typed (R_ HO_497002.out)) (by decide) hg)
       replace BK491 := Aside0.mk (blk_grown (g := gb491) (o := .cells #[.int .i64 a0_0, .slice A0_1 l0_1.length c0_1, .slice (some ad497) l0_2.length c0_2] 30 (0, 0)) (K_ BK491.out) hg (Kd.R_away HO_497002.out (fun _ hk => hk.1.1.2.1)))
       replace BK492 := Aside0.mk (blk_grown (g := gb492) (o := .cells #[.int .i64 0, .slice none 0 0, .slice none 0 0] 30 (0, 0)) (K_ BK492.out) hg (Kd.R_away HO_497002.out (fun _ hk => hk.1.1.2.2.1)))
       replace BK496 := Aside0.mk (blk_grown (g := gb496) (o := .cells #[.int .i64 a0_0, .slice Ao10 t493.length co10, u497002] 30 (0, 0)) (K_ BK496.out) hg (Kd.R_away HO_497002.out (fun _ hk => hk.1.1.2.2.2.1)))
       replace BK498 := Aside0.mk (blk_grown (g := gb498) (o := .cells #[.int .i64 ((rd_T30 l0_2 x15_1).f0), .slice A497_1 ((rd_T30 l0_2 x15_1).f1).length c497_1, .slice A497_2 ((rd_T30 l0_2 x15_1).f2).length c497_2] 30 (0, 0)) (K_ BK498.out) hg (Kd.R_away HO_497002.out (fun _ hk => hk.1.1.2.2.2.2)))
       replace HB := Aside0.mk (hb)
       have HO508 := Aside0.mk (ho)
       clear HO_497002 HO502 HO505
       clear ho hb hg hat
       obtain ⟨Ao33, co33, eo33⟩ := Kd.R_slice HO508.out
       (first | subst eo33 | (injection eo33 with f1_ f2_ f3_; have f4_ := f1_.symm; have f5_ := f3_.symm; clear f1_ f2_ f3_; subst f4_; subst f5_))
       refine hK.out _ _ ⟨(blk_cell BK496.out 0).trans rfl, (blk_cell BK496.out 1).trans rfl, (blk_cell BK496.out 2).trans rfl, (blk_cell BK498.out 0).trans rfl, (blk_cell BK498.out 1).trans rfl, (blk_cell BK498.out 2).trans rfl⟩ (fun hHeld => ?_)
       clear hK K
       refine nm_ (some 24) ?_
       refine pu_ HT_ (i := 6) (N := some 25) (mk_ 8 127) rfl rfl ?_
       refine last_ (i := 7) (N := none) #[true, true, true, true, true, true, true, true] rfl rfl (one_of HT_.out (by kernel_rfl)) (by decide) (fun K hK => ?_)
       have hs34 : w30.cell? ⟨gb496, 2, none⟩ = some (u497002) := (blk_cell BK496.out 2).trans rfl
       have hfs34 := blk_frozen BK496.out 2
       have hns34_0 := NB491_496.out
       have hns34_1 := NB492_496.out
       have hns34_3 := NB498_496.out
       have hms34_0 := NB496_491.out
       have hms34_1 := NB496_492.out
       have hms34_3 := NB496_498.out
       refine skip_ (w1 := ?_) (by rfl) rfl ?_ ?_
       rotate_left
       ·go_simp
        rfl
       refine hK.out _ _ ?_
       clear hK K
       refine done_ (done_of HT_.out (by kernel_rfl)) ?_
       try go_wp2
       go_roundg k1
       case measure => have := HK1.out; omega
       case rel => exact ⟨(wrap64 (x15_1 + 1)), (y506), (.slice Ao33 y506.length co33), q_, H', ⟨by have := HK1.out; omega⟩, ⟨by (with_reducible repeat (first | apply Kd.R_alloc | apply Kd.R_drewN | apply Kd.R_drew)); exact Kd.R_mono (Kd.R_far (p := ⟨gb496, 2, none⟩) (Kd.R_types HO_497001.out BK496.out (by decide)) (fun _ hk => hk.2) (.slice Ao33 y506.length co33)) (fun _ hk => trivial)⟩, ⟨by (with_reducible repeat (first | apply Kd.R_alloc | apply Kd.R_drewN | apply Kd.R_drew)); exact Kd.R_mono (Kd.R_far (p := ⟨gb496, 2, none⟩) (Kd.R_mono HO508.out (fun k_ hk => (⟨hk, hk.2.2.2.1⟩ : _ ∧ k_ ≠ gb496))) (fun _ hk => hk.2) (.slice Ao33 y506.length co33)) (fun _ hk => ⟨hk.1.1, ⟨hk.1.2.1, ⟨hk.1.2.2.1, hk.1.2.2.2.1⟩⟩⟩)⟩, ⟨by (with_reducible repeat (first | refine blk_drewN ?_ _ | refine blk_drew ?_ | refine blk_alloc ?_ _)); refine blk_far ?_ NB491_496.out _; (with_reducible repeat (first | refine blk_drewN ?_ _ | refine blk_drew ?_ | refine blk_alloc ?_ _)); exact BK491.out⟩, ⟨by (with_reducible repeat (first | refine blk_drewN ?_ _ | refine blk_drew ?_ | refine blk_alloc ?_ _)); refine blk_far ?_ NB492_496.out _; (with_reducible repeat (first | refine blk_drewN ?_ _ | refine blk_drew ?_ | refine blk_alloc ?_ _)); exact BK492.out⟩, ⟨by (with_reducible repeat (first | refine blk_drewN ?_ _ | refine blk_drew ?_ | refine blk_alloc ?_ _)); refine blk_put (cs := #[.int .i64 a0_0, .slice Ao10 t493.length co10, u497002]) ?_ 2 _ rfl; (with_reducible repeat (first | refine blk_drewN ?_ _ | refine blk_drew ?_ | refine blk_alloc ?_ _)); exact BK496.out⟩, ⟨B4_ HB.out GE491.out GE492.out GE496.out GE498.out⟩⟩
      ·rw [if_neg c21] at H
       exact absurd H (by simp)
     ·rw [if_neg c19] at H
      exact absurd H (by simp)
    ·rw [if_neg c18] at H
     exact absurd H (by simp)
   ·rw [if_neg c17] at H
    have c17b0 : decide (x15_1 < (l0_2.length : Int)) = false := decide_eq_false c17
    clear c17
    simp only [Option.some.injEq, Prod.mk.injEq] at H
    obtain ⟨rfl, rfl, rfl⟩ := H
    have hnb35 := NB496_491.out
    have hnc35 := NB491_496.out
    have hnb36 := NB496_492.out
    have hnc36 := NB492_496.out
    obtain ⟨hcz37_0, hcz37_1, hcz37_2, hfz37_0, hfz37_1, hfz37_2⟩ := box3_ BK496.out
    have hnb38 := NB492_491.out
    have hnc38 := NB491_492.out
    obtain ⟨hcz39_0, hcz39_1, hcz39_2, hfz39_0, hfz39_1, hfz39_2⟩ := box3_ BK492.out
    obtain ⟨Ao40, co40, eo40⟩ := Kd.R_slice HO_497002.out
    subst eo40
    go_wp2
    refine bodyPost_ret (results_cell_row rfl _ _ gb492 30 #[.int .i64 a0_0, .slice Ao10 t493.length co10, .slice Ao40 x497002_1.length co40] (0, 0) _ rfl (by (with_reducible repeat (first | refine blk_drewN ?_ _ | refine blk_drew ?_ | refine blk_alloc ?_ _)); refine blk_put (cs := #[.int .i64 a0_0, .slice Ao10 t493.length co10, .slice none 0 0]) ?_ 2 _ rfl; (with_reducible repeat (first | refine blk_drewN ?_ _ | refine blk_drew ?_ | refine blk_alloc ?_ _)); refine blk_put (cs := #[.int .i64 a0_0, .slice none 0 0, .slice none 0 0]) ?_ 1 _ rfl; (with_reducible repeat (first | refine blk_drewN ?_ _ | refine blk_drew ?_ | refine blk_alloc ?_ _)); refine blk_put (cs := #[.int .i64 0, .slice none 0 0, .slice none 0 0]) ?_ 0 _ rfl; (with_reducible repeat (first | refine blk_drewN ?_ _ | refine blk_drew ?_ | refine blk_alloc ?_ _)); exact BK492.out) Try.underlying30 rfl (by kernel_rfl)) rfl ?_
    exact ⟨_, _, er_, by (with_reducible repeat (first | apply Kd.R_alloc | apply Kd.R_drewN | apply Kd.R_drew)); exact Kd.R_mono (Kd.R_far (p := ⟨gb492, 2, none⟩) (Kd.R_far (p := ⟨gb492, 1, none⟩) (Kd.R_far (p := ⟨gb492, 0, none⟩) (Kd.R_types HO_497001.out BK492.out (by decide)) (fun _ hk => hk.2) (.int .i64 a0_0)) (fun _ hk => hk.2) (.slice Ao10 t493.length co10)) (fun _ hk => hk.2) (.slice Ao40 x497002_1.length co40)) (fun _ hk => trivial), by (with_reducible repeat (first | apply Kd.R_alloc | apply Kd.R_drewN | apply Kd.R_drew)); exact Kd.R_mono (Kd.R_far (p := ⟨gb492, 2, none⟩) (Kd.R_far (p := ⟨gb492, 1, none⟩) (Kd.R_far (p := ⟨gb492, 0, none⟩) (Kd.R_mono HO_497002.out (fun k_ hk => (⟨hk, hk.2.2.1⟩ : _ ∧ k_ ≠ gb492))) (fun _ hk => hk.2) (.int .i64 a0_0)) (fun _ hk => hk.2) (.slice Ao10 t493.length co10)) (fun _ hk => hk.2) (.slice Ao40 x497002_1.length co40)) (fun _ hk => hk.1.1), B3_ HB.out GE491.out GE492.out GE496.out⟩

end Go.Proofs.Ytingaflikkeefaa.XB
