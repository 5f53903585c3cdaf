-- Written by myprint.py, a program of this session, which runs the kit's printer with changes of its own. Lean checks it.
import Derived.Test.YtibcndpadbipmaaXFx0
import Derived.Test.YtibcndpadbipmaaXFx4
import Derived.Test.YtibcndpadbipmaaSq
namespace Go.Proofs.Ytibcndpadbipmaa.XF
open Go.RowKit Go.Proofs.YtibcndpadbipmaaW.PrintWords Go.Proofs.YtibcndpadbipmaaW.PrintLast Go.Proofs.YtibcndpadbipmaaW.PrintMore Go.Proofs.Ytibcndpadbipmaa.Sq
attribute [local go_sem] max2_int min2_int max_two min_two max_three min_three max_four min_four   -- for this text's walks alone
set_option linter.unusedVariables false
set_option linter.unusedSimpArgs false

/-! ### spec_l7Form: function 47 -/
mutual
def spec_l7Form.l0 : Nat → Int → Int → ByteArray → Int → List (S29) → Option (Bool)
 | 0, _, _, _, _, _ => none
 | k + 1, x3, x129000, x129001, x129002, x129003 => if x3 < (x129003.length : Int) then (if 0 ≤ x3 then ((spec_l7Form.f k ((rd_T29 x129003 x3).f0) ((rd_T29 x129003 x3).f1) ((rd_T29 x129003 x3).f2) ((rd_T29 x129003 x3).f3)).bind fun t130 => (if t130 = true then (spec_l7Form.l0 k (wrap64 (x3 + 1)) x129000 x129001 x129002 x129003) else (some false))) else (none)) else (if x129000 = 2 then (spec_l7Form.j1 k true x129000 x129001 x129002 x129003) else (if x129000 = 3 then (spec_l7Form.j1 k true x129000 x129001 x129002 x129003) else (spec_l7Form.j1 k (x129000 == 10) x129000 x129001 x129002 x129003)))
def spec_l7Form.j1 : Nat → Bool → Int → ByteArray → Int → List (S29) → Option (Bool)
 | 0, _, _, _, _, _ => none
 | k + 1, x4, x129000, x129001, x129002, x129003 => (spec_IsName.f k x129001).bind fun t131 => (if (x4 != t131) = true then (spec_l7Form.j2 k true x129000 x129001 x129002 x129003) else (if x4 = true then ((spec_ArityOf.f k x129000).bind fun t132 => (spec_l7Form.j2 k ((x129003.length : Int) != t132) x129000 x129001 x129002 x129003)) else (if x129001.toList = ([] : List UInt8) then ((spec_ArityOf.f k x129000).bind fun t133 => (spec_l7Form.j2 k ((x129003.length : Int) != t133) x129000 x129001 x129002 x129003)) else (spec_l7Form.j2 k true x129000 x129001 x129002 x129003))))
def spec_l7Form.j2 : Nat → Bool → Int → ByteArray → Int → List (S29) → Option (Bool)
 | 0, _, _, _, _, _ => none
 | k + 1, x54, x129000, x129001, x129002, x129003 => if x54 = true then (some false) else (if x129000 = 6 then ((spec_l1In.f x129002 0 1000).bind fun t134 => (some t134)) else (if x129000 = 7 then ((spec_l1In.f x129002 (-1000) 1000).bind fun t135 => (some t135)) else (some (x129002 == 0))))
def spec_l7Form.f : Nat → Int → ByteArray → Int → List (S29) → Option (Bool)
 | 0, _, _, _, _ => none
 | k + 1, a0_0, a0_1, a0_2, l0_3 => spec_l7Form.l0 k 0 a0_0 a0_1 a0_2 l0_3
end
theorem spec_l7Form.mono_l : ∀ k, (∀ y0 y1 y2 y3, LeO (spec_l7Form.f k y0 y1 y2 y3) (spec_l7Form.f (k + 1) y0 y1 y2 y3)) ∧ (∀ y0 y1 y2 y3 y4, LeO (spec_l7Form.l0 k y0 y1 y2 y3 y4) (spec_l7Form.l0 (k + 1) y0 y1 y2 y3 y4)) ∧ (∀ y0 y1 y2 y3 y4, LeO (spec_l7Form.j1 k y0 y1 y2 y3 y4) (spec_l7Form.j1 (k + 1) y0 y1 y2 y3 y4)) ∧ (∀ y0 y1 y2 y3 y4, LeO (spec_l7Form.j2 k y0 y1 y2 y3 y4) (spec_l7Form.j2 (k + 1) y0 y1 y2 y3 y4))
 | 0 => ⟨fun _ _ _ _ r h => by simp [spec_l7Form.f] at h, fun _ _ _ _ _ r h => by simp [spec_l7Form.l0] at h, fun _ _ _ _ _ r h => by simp [spec_l7Form.j1] at h, fun _ _ _ _ _ r h => by simp [spec_l7Form.j2] at h⟩
 | k + 1 => by
  obtain ⟨ih0, ih1, ih2, ih3⟩ := spec_l7Form.mono_l k
  refine ⟨?_, ?_, ?_, ?_⟩
  ·intro y0 y1 y2 y3
   unfold spec_l7Form.f
   repeat' first
   | (with_reducible exact ih0 _ _ _ _)
   | (with_reducible exact ih1 _ _ _ _ _)
   | (with_reducible exact ih2 _ _ _ _ _)
   | (with_reducible exact ih3 _ _ _ _ _)
   | (with_reducible exact spec_ArityOf.mono _ _)
   | (with_reducible exact spec_IsName.mono _ _)
   | (with_reducible exact LeO.refl _)
   | (with_reducible exact LeO.none _)
   | (with_reducible refine LeO.ite ?_ ?_)
   | (with_reducible refine LeO.bind ?_ (fun _ => ?_))
   | exact ih0 _ _ _ _
   | exact ih1 _ _ _ _ _
   | exact ih2 _ _ _ _ _
   | exact ih3 _ _ _ _ _
   | exact spec_ArityOf.mono _ _
   | exact spec_IsName.mono _ _
   | exact LeO.none _
   | refine LeO.ite ?_ ?_
   | refine LeO.bind ?_ (fun _ => ?_)
  ·intro y0 y1 y2 y3 y4
   unfold spec_l7Form.l0
   repeat' first
   | (with_reducible exact ih0 _ _ _ _)
   | (with_reducible exact ih1 _ _ _ _ _)
   | (with_reducible exact ih2 _ _ _ _ _)
   | (with_reducible exact ih3 _ _ _ _ _)
   | (with_reducible exact spec_ArityOf.mono _ _)
   | (with_reducible exact spec_IsName.mono _ _)
   | (with_reducible exact LeO.refl _)
   | (with_reducible exact LeO.none _)
   | (with_reducible refine LeO.ite ?_ ?_)
   | (with_reducible refine LeO.bind ?_ (fun _ => ?_))
   | exact ih0 _ _ _ _
   | exact ih1 _ _ _ _ _
   | exact ih2 _ _ _ _ _
   | exact ih3 _ _ _ _ _
   | exact spec_ArityOf.mono _ _
   | exact spec_IsName.mono _ _
   | exact LeO.none _
   | refine LeO.ite ?_ ?_
   | refine LeO.bind ?_ (fun _ => ?_)
  ·intro y0 y1 y2 y3 y4
   unfold spec_l7Form.j1
   repeat' first
   | (with_reducible exact ih0 _ _ _ _)
   | (with_reducible exact ih1 _ _ _ _ _)
   | (with_reducible exact ih2 _ _ _ _ _)
   | (with_reducible exact ih3 _ _ _ _ _)
   | (with_reducible exact spec_ArityOf.mono _ _)
   | (with_reducible exact spec_IsName.mono _ _)
   | (with_reducible exact LeO.refl _)
   | (with_reducible exact LeO.none _)
   | (with_reducible refine LeO.ite ?_ ?_)
   | (with_reducible refine LeO.bind ?_ (fun _ => ?_))
   | exact ih0 _ _ _ _
   | exact ih1 _ _ _ _ _
   | exact ih2 _ _ _ _ _
   | exact ih3 _ _ _ _ _
   | exact spec_ArityOf.mono _ _
   | exact spec_IsName.mono _ _
   | exact LeO.none _
   | refine LeO.ite ?_ ?_
   | refine LeO.bind ?_ (fun _ => ?_)
  ·intro y0 y1 y2 y3 y4
   unfold spec_l7Form.j2
   repeat' first
   | (with_reducible exact ih0 _ _ _ _)
   | (with_reducible exact ih1 _ _ _ _ _)
   | (with_reducible exact ih2 _ _ _ _ _)
   | (with_reducible exact ih3 _ _ _ _ _)
   | (with_reducible exact spec_ArityOf.mono _ _)
   | (with_reducible exact spec_IsName.mono _ _)
   | (with_reducible exact LeO.refl _)
   | (with_reducible exact LeO.none _)
   | (with_reducible refine LeO.ite ?_ ?_)
   | (with_reducible refine LeO.bind ?_ (fun _ => ?_))
   | exact ih0 _ _ _ _
   | exact ih1 _ _ _ _ _
   | exact ih2 _ _ _ _ _
   | exact ih3 _ _ _ _ _
   | exact spec_ArityOf.mono _ _
   | exact spec_IsName.mono _ _
   | exact LeO.none _
   | refine LeO.ite ?_ ?_
   | refine LeO.bind ?_ (fun _ => ?_)
theorem spec_l7Form.mono : ∀ a0 a1 a2 a3 k, LeO (spec_l7Form.f k a0 a1 a2 a3) (spec_l7Form.f (k + 1) a0 a1 a2 a3) := by
 intro a0 a1 a2 a3 k
 obtain ⟨ih0, ih1, ih2, ih3⟩ := spec_l7Form.mono_l k
 exact ih0 a0 a1 a2 a3
set_option maxHeartbeats 8000000 in
set_option maxRecDepth 100000 in
theorem spec_l7Form.calls (k : Nat) : ∀ (a0_0 : Int) (a0_1 : ByteArray) (a0_2 : Int) (A0_3 : Option Addr) (c0_3 : Nat) (l0_3 : List (S29)) (r : Bool) (w : World) (hr0_3 : Kd.C k29 w A0_3 l0_3.length l0_3) (hc0_3 : l0_3.length ≤ c0_3) (h : spec_l7Form.f k a0_0 a0_1 a0_2 l0_3 = some r),
  Calls Try.prog 47 #[.agg #[.int .i64 a0_0, .string a0_1, .int .i64 a0_2, .slice A0_3 l0_3.length c0_3]] w fun e w' => e = .returned (.bool r) ∧ Below w.heap.size w w' := by
 induction k using Nat.strongRecOn with
 | _ k ih =>
 intro a0_0 a0_1 a0_2 A0_3 c0_3 l0_3 r w hr0_3 hc0_3 h
 cases k with
 | zero => exact absurd h (by simp [spec_l7Form.f])
 | succ k =>
 simp only [spec_l7Form.f] at h
 have hu29 := Try.underlying29
 have HR0_3 := Aside0.mk hr0_3
 have HC0_3 := Aside0.mk hc0_3
 clear hr0_3 hc0_3
 have HB := Aside0.mk (Below.refl w.heap.size w)
 have H : (spec_l7Form.l0 k 0 a0_0 a0_1 a0_2 l0_3) = some r := h
 clear h
 have H' := Aside0.mk H
 clear H
 go_enter Try.func47, Try.ntmps47
 go_wp2_with (first | ((with_reducible refine gate_dst (N := 1) rfl ?_); (try (refine gate_guard (by rfl) ?_; dsimp only)); refine box_event ?hg (N := 1) ?hd (cs := #[.int .i64 a0_0, .string a0_1, .int .i64 a0_2, .slice A0_3 l0_3.length c0_3]) (t := 29) ?hr ?_; (case hd => rfl); (case hg => rfl); (case hr => first | (go_simp; done) | (go_simp; rfl)); intro gb128 hg w2 hbox hb; have BK128 := Aside0.mk (hbox); have GW128 := Aside0.mk ((by rw [hg]; exact (below_size (B0_ HB.out)) : w.heap.size ≤ gb128)); have GE128 := Aside0.mk ((by rw [hg]; exact (below_size (B0_ HB.out)) : w.heap.size ≤ gb128)); replace HB := Aside0.mk (below_step (B0_ HB.out) hb); clear hb hbox hg))
 repeat (go_quiet (first | ((with_reducible refine gate_dst (N := 1) rfl ?_); (try (refine gate_guard (by rfl) ?_; dsimp only)); refine box_event ?hg (N := 1) ?hd (cs := #[.int .i64 a0_0, .string a0_1, .int .i64 a0_2, .slice A0_3 l0_3.length c0_3]) (t := 29) ?hr ?_; (case hd => rfl); (case hg => rfl); (case hr => first | (go_simp; done) | (go_simp; rfl)); intro gb128 hg w2 hbox hb; have BK128 := Aside0.mk (hbox); have GW128 := Aside0.mk ((by rw [hg]; exact (below_size (B0_ HB.out)) : w.heap.size ≤ gb128)); have GE128 := Aside0.mk ((by rw [hg]; exact (below_size (B0_ HB.out)) : w.heap.size ≤ gb128)); replace HB := Aside0.mk (below_step (B0_ HB.out) hb); clear hb hbox hg)); try go_wp2_with (first | ((with_reducible refine gate_dst (N := 1) rfl ?_); (try (refine gate_guard (by rfl) ?_; dsimp only)); refine box_event ?hg (N := 1) ?hd (cs := #[.int .i64 a0_0, .string a0_1, .int .i64 a0_2, .slice A0_3 l0_3.length c0_3]) (t := 29) ?hr ?_; (case hd => rfl); (case hg => rfl); (case hr => first | (go_simp; done) | (go_simp; rfl)); intro gb128 hg w2 hbox hb; have BK128 := Aside0.mk (hbox); have GW128 := Aside0.mk ((by rw [hg]; exact (below_size (B0_ HB.out)) : w.heap.size ≤ gb128)); have GE128 := Aside0.mk ((by rw [hg]; exact (below_size (B0_ HB.out)) : w.heap.size ≤ gb128)); replace HB := Aside0.mk (below_step (B0_ HB.out) hb); clear hb hbox hg)))
 go_loopg [3] k (fun kq v3 w' => ∃ (x3_1 : Int), v3 = .int .i64 x3_1 ∧ Aside0 (spec_l7Form.l0 kq x3_1 a0_0 a0_1 a0_2 l0_3 = some r) ∧ Aside0 (kq ≤ k) ∧ Aside0 (w'.heap[gb128]? = some (.cells #[.int .i64 a0_0, .string a0_1, .int .i64 a0_2, (.slice A0_3 l0_3.length c0_3)] 29 (0, 0))) ∧ Aside0 (Below w.heap.size w w'))
 case atStart => exact ⟨(0), q_, H', ⟨Nat.le_refl _⟩, ⟨K_ BK128.out⟩, ⟨B1_ HB.out GE128.out⟩⟩
 case round =>
  clear H'
  obtain ⟨x3_1, rfl, HA, HK1, BK128, HB⟩ := hrel
  cases gk with
  | zero => exact absurd HA.out (by simp [spec_l7Form.l0])
  | succ k1 =>
   have H := HA.out
   clear HA
   simp only [spec_l7Form.l0] at H
   by_cases c3 : x3_1 < (l0_3.length : Int)
   ·rw [if_pos c3] at H
    have c3b0 : decide (x3_1 < (l0_3.length : Int)) = true := decide_eq_true c3
    clear c3
    by_cases c4 : 0 ≤ x3_1
    ·rw [if_pos c4] at H
     have c4b0 : decide (0 ≤ x3_1) = true := decide_eq_true c4
     clear c4
     replace H := Option.bind_eq_some_iff.mp H
     obtain ⟨t130, A50, H⟩ := H
     replace H : (if t130 = true then (spec_l7Form.l0 k1 (wrap64 (x3_1 + 1)) a0_0 a0_1 a0_2 l0_3) else (some false)) = some r := H
     have A5 := Aside0.mk A50
     clear A50
     by_cases c6 : t130 = true
     ·subst c6
      have H1 : (spec_l7Form.l0 k1 (wrap64 (x3_1 + 1)) a0_0 a0_1 a0_2 l0_3) = some r := by rw [if_pos rfl] at H; exact H
      clear H
      have H := H1
      clear H1
      have H' := Aside0.mk H
      clear H
      obtain ⟨hcz7_0, hcz7_1, hcz7_2, hcz7_3, hfz7_0, hfz7_1, hfz7_2, hfz7_3⟩ := box4_ BK128.out
      have p129 : 0 ≤ (x3_1 : Int) := de_
      have q129 : x3_1 < (l0_3.length : Int) := de_
      obtain ⟨ad129, A129_3, c129_3, e129, hx129_0, hx129_1, hx129_2, hx129_3, hl129_3, hi129_3⟩ := at_T29 HR0_3.out x3_1 p129 q129
      cases e129
      replace hx129_0 := (HB.out.cell (World.block_lt_of_cell? w _ hx129_0)).trans hx129_0
      replace hx129_1 := (HB.out.cell (World.block_lt_of_cell? w _ hx129_1)).trans hx129_1
      replace hx129_2 := (HB.out.cell (World.block_lt_of_cell? w _ hx129_2)).trans hx129_2
      replace hx129_3 := (HB.out.cell (World.block_lt_of_cell? w _ hx129_3)).trans hx129_3
      have HR129_3 := Aside0.mk hi129_3
      have HC129_3 := Aside0.mk hl129_3
      clear hi129_3 hl129_3
      replace p129 := eq_true p129
      replace q129 := eq_true q129
      go_wp2_with (first | (go_at_call 47; (with_reducible refine (ih k1 (by have := HK1.out; omega) ((rd_T29 l0_3 x3_1).f0) ((rd_T29 l0_3 x3_1).f1) ((rd_T29 l0_3 x3_1).f2) _ _ ((rd_T29 l0_3 x3_1).f3) true _ ?side1 ?side2 A5.out).mono ?_); (case side1 => exact C_ (Kd.C_below HR129_3.out HB.out)); (case side2 => exact HC129_3.out); rintro e w8 ⟨rfl, hb⟩; replace BK128 := Aside0.mk (blk_below (K_ BK128.out) hb); replace HB := Aside0.mk (below_step (B1_ HB.out GE128.out) hb); (try clear hb); (try clear hb2); (try clear hk); (try clear hi)))
      repeat (go_quiet (first | (go_at_call 47; (with_reducible refine (ih k1 (by have := HK1.out; omega) ((rd_T29 l0_3 x3_1).f0) ((rd_T29 l0_3 x3_1).f1) ((rd_T29 l0_3 x3_1).f2) _ _ ((rd_T29 l0_3 x3_1).f3) true _ ?side1 ?side2 A5.out).mono ?_); (case side1 => exact C_ (Kd.C_below HR129_3.out HB.out)); (case side2 => exact HC129_3.out); rintro e w8 ⟨rfl, hb⟩; replace BK128 := Aside0.mk (blk_below (K_ BK128.out) hb); replace HB := Aside0.mk (below_step (B1_ HB.out GE128.out) hb); (try clear hb); (try clear hb2); (try clear hk); (try clear hi))); try go_wp2_with (first | (go_at_call 47; (with_reducible refine (ih k1 (by have := HK1.out; omega) ((rd_T29 l0_3 x3_1).f0) ((rd_T29 l0_3 x3_1).f1) ((rd_T29 l0_3 x3_1).f2) _ _ ((rd_T29 l0_3 x3_1).f3) true _ ?side1 ?side2 A5.out).mono ?_); (case side1 => exact C_ (Kd.C_below HR129_3.out HB.out)); (case side2 => exact HC129_3.out); rintro e w8 ⟨rfl, hb⟩; replace BK128 := Aside0.mk (blk_below (K_ BK128.out) hb); replace HB := Aside0.mk (below_step (B1_ HB.out GE128.out) hb); (try clear hb); (try clear hb2); (try clear hk); (try clear hi))))
      go_roundg k1
      case measure => have := HK1.out; omega
      case rel => exact ⟨(wrap64 (x3_1 + 1)), q_, H', ⟨by have := HK1.out; omega⟩, ⟨K_ BK128.out⟩, ⟨B1_ HB.out GE128.out⟩⟩
     ·replace c6 := Bool.eq_false_iff.mpr c6
      subst c6
      have H1 : (some false) = some r := by rw [if_neg (show ¬ (false = true) by decide)] at H; exact H
      clear H
      have H := H1
      clear H1
      obtain rfl := Option.some.inj H
      obtain ⟨hcz9_0, hcz9_1, hcz9_2, hcz9_3, hfz9_0, hfz9_1, hfz9_2, hfz9_3⟩ := box4_ BK128.out
      have p129 : 0 ≤ (x3_1 : Int) := de_
      have q129 : x3_1 < (l0_3.length : Int) := de_
      obtain ⟨ad129, A129_3, c129_3, e129, hx129_0, hx129_1, hx129_2, hx129_3, hl129_3, hi129_3⟩ := at_T29 HR0_3.out x3_1 p129 q129
      cases e129
      replace hx129_0 := (HB.out.cell (World.block_lt_of_cell? w _ hx129_0)).trans hx129_0
      replace hx129_1 := (HB.out.cell (World.block_lt_of_cell? w _ hx129_1)).trans hx129_1
      replace hx129_2 := (HB.out.cell (World.block_lt_of_cell? w _ hx129_2)).trans hx129_2
      replace hx129_3 := (HB.out.cell (World.block_lt_of_cell? w _ hx129_3)).trans hx129_3
      have HR129_3 := Aside0.mk hi129_3
      have HC129_3 := Aside0.mk hl129_3
      clear hi129_3 hl129_3
      replace p129 := eq_true p129
      replace q129 := eq_true q129
      go_wp2_with (first | (go_at_call 47; (with_reducible refine (ih k1 (by have := HK1.out; omega) ((rd_T29 l0_3 x3_1).f0) ((rd_T29 l0_3 x3_1).f1) ((rd_T29 l0_3 x3_1).f2) _ _ ((rd_T29 l0_3 x3_1).f3) false _ ?side1 ?side2 A5.out).mono ?_); (case side1 => exact C_ (Kd.C_below HR129_3.out HB.out)); (case side2 => exact HC129_3.out); rintro e w10 ⟨rfl, hb⟩; replace BK128 := Aside0.mk (blk_below (K_ BK128.out) hb); replace HB := Aside0.mk (below_step (B1_ HB.out GE128.out) hb); (try clear hb); (try clear hb2); (try clear hk); (try clear hi)))
      repeat (go_quiet (first | (go_at_call 47; (with_reducible refine (ih k1 (by have := HK1.out; omega) ((rd_T29 l0_3 x3_1).f0) ((rd_T29 l0_3 x3_1).f1) ((rd_T29 l0_3 x3_1).f2) _ _ ((rd_T29 l0_3 x3_1).f3) false _ ?side1 ?side2 A5.out).mono ?_); (case side1 => exact C_ (Kd.C_below HR129_3.out HB.out)); (case side2 => exact HC129_3.out); rintro e w10 ⟨rfl, hb⟩; replace BK128 := Aside0.mk (blk_below (K_ BK128.out) hb); replace HB := Aside0.mk (below_step (B1_ HB.out GE128.out) hb); (try clear hb); (try clear hb2); (try clear hk); (try clear hi))); try go_wp2_with (first | (go_at_call 47; (with_reducible refine (ih k1 (by have := HK1.out; omega) ((rd_T29 l0_3 x3_1).f0) ((rd_T29 l0_3 x3_1).f1) ((rd_T29 l0_3 x3_1).f2) _ _ ((rd_T29 l0_3 x3_1).f3) false _ ?side1 ?side2 A5.out).mono ?_); (case side1 => exact C_ (Kd.C_below HR129_3.out HB.out)); (case side2 => exact HC129_3.out); rintro e w10 ⟨rfl, hb⟩; replace BK128 := Aside0.mk (blk_below (K_ BK128.out) hb); replace HB := Aside0.mk (below_step (B1_ HB.out GE128.out) hb); (try clear hb); (try clear hb2); (try clear hk); (try clear hi))))
      go_ret
      exact ⟨er_, B1_ HB.out GE128.out⟩
    ·rw [if_neg c4] at H
     exact absurd H (by simp)
   ·rw [if_neg c3] at H
    have c3b0 : decide (x3_1 < (l0_3.length : Int)) = false := decide_eq_false c3
    clear c3
    have HC11 := Aside0.mk H
    clear H
    obtain ⟨hcz12_0, hcz12_1, hcz12_2, hcz12_3, hfz12_0, hfz12_1, hfz12_2, hfz12_3⟩ := box4_ BK128.out
    go_upto_region 6 with (fail)
    repeat (go_quiet (fail); go_upto_region 6 with (fail))
    go_cut [4] (fun v4 wc => ∃ (kq : Nat) (x4_10 : Bool), v4 = .bool x4_10 ∧ Aside0 (spec_l7Form.j1 kq x4_10 a0_0 a0_1 a0_2 l0_3 = some r) ∧ Aside0 (kq ≤ k1) ∧ Aside0 (wc.heap[gb128]? = some (.cells #[.int .i64 a0_0, .string a0_1, .int .i64 a0_2, (.slice A0_3 l0_3.length c0_3)] 29 (0, 0))) ∧ Aside0 (Below w.heap.size w wc))
    case first =>
     have H := HC11.out
     clear HC11
     by_cases c13 : a0_0 = 2
     ·rw [if_pos c13] at H
      have c13b0 : (a0_0 == 2) = true := beq_iff_eq.mpr c13
      have c13b1 : (a0_0 != 2) = false := bne_eq_false_iff_eq.mpr c13
      clear c13
      (first | rw [c13b0] | (simp only [i64_w, i32_w]; rw [c13b0]) | skip)
      have H' := Aside0.mk H
      clear H
      obtain ⟨hcz14_0, hcz14_1, hcz14_2, hcz14_3, hfz14_0, hfz14_1, hfz14_2, hfz14_3⟩ := box4_ BK128.out
      go_wp2
      repeat (go_quiet (fail); try go_wp2)
      go_meet
      case rel => exact ⟨_, (true), q_, H', ⟨by have := HK1.out; first | omega | exact Nat.le_refl _⟩, ⟨K_ BK128.out⟩, ⟨B1_ HB.out GE128.out⟩⟩
     ·rw [if_neg c13] at H
      have c13b0 : (a0_0 == 2) = false := beq_eq_false_iff_ne.mpr c13
      have c13b1 : (a0_0 != 2) = true := bne_iff_ne.mpr c13
      (first | rw [c13b0] | (simp only [i64_w, i32_w]; rw [c13b0]) | skip)
      by_cases c15 : a0_0 = 3
      ·rw [if_pos c15] at H
       have c15b0 : (a0_0 == 3) = true := beq_iff_eq.mpr c15
       have c15b1 : (a0_0 != 3) = false := bne_eq_false_iff_eq.mpr c15
       clear c15
       have H' := Aside0.mk H
       clear H
       obtain ⟨hcz16_0, hcz16_1, hcz16_2, hcz16_3, hfz16_0, hfz16_1, hfz16_2, hfz16_3⟩ := box4_ BK128.out
       go_wp2
       repeat (go_quiet (fail); try go_wp2)
       go_meet
       case rel => exact ⟨_, (true), q_, H', ⟨by have := HK1.out; first | omega | exact Nat.le_refl _⟩, ⟨K_ BK128.out⟩, ⟨B1_ HB.out GE128.out⟩⟩
      ·rw [if_neg c15] at H
       have c15b0 : (a0_0 == 3) = false := beq_eq_false_iff_ne.mpr c15
       have c15b1 : (a0_0 != 3) = true := bne_iff_ne.mpr c15
       have H' := Aside0.mk H
       clear H
       obtain ⟨hcz17_0, hcz17_1, hcz17_2, hcz17_3, hfz17_0, hfz17_1, hfz17_2, hfz17_3⟩ := box4_ BK128.out
       go_wp2
       repeat (go_quiet (fail); try go_wp2)
       go_meet
       case rel => exact ⟨_, ((a0_0 == 10)), q_, H', ⟨by have := HK1.out; first | omega | exact Nat.le_refl _⟩, ⟨K_ BK128.out⟩, ⟨B1_ HB.out GE128.out⟩⟩
    case rest =>
     clear HC11
     try clear c3
     try clear c3b0
     try clear hcz12_0
     try clear hcz12_1
     try clear hcz12_2
     try clear hcz12_3
     try clear hfz12_0
     try clear hfz12_1
     try clear hfz12_2
     try clear hfz12_3
     obtain ⟨kq, x4_10, rfl, HA, HJ10, BK128, HB⟩ := hcut
     cases kq with
     | zero => exact absurd HA.out (by simp [spec_l7Form.j1])
     | succ kj10 =>
      have H := HA.out
      clear HA
      simp only [spec_l7Form.j1] at H
      have HC18 := Aside0.mk H
      clear H
      go_upto_region 7 with (fail)
      repeat (go_quiet (fail); go_upto_region 7 with (fail))
      go_cut [54] (fun v54 wc => ∃ (kq : Nat) (x54_17 : Bool), v54 = .bool x54_17 ∧ Aside0 (spec_l7Form.j2 kq x54_17 a0_0 a0_1 a0_2 l0_3 = some r) ∧ Aside0 (kq ≤ kj10) ∧ Aside0 (wc.heap[gb128]? = some (.cells #[.int .i64 a0_0, .string a0_1, .int .i64 a0_2, (.slice A0_3 l0_3.length c0_3)] 29 (0, 0))) ∧ Aside0 (Below w.heap.size w wc))
      case first =>
       have H := HC18.out
       clear HC18
       replace H := Option.bind_eq_some_iff.mp H
       obtain ⟨t131, A190, H⟩ := H
       replace H : (if (x4_10 != t131) = true then (spec_l7Form.j2 kj10 true a0_0 a0_1 a0_2 l0_3) else (if x4_10 = true then ((spec_ArityOf.f kj10 a0_0).bind fun t132 => (spec_l7Form.j2 kj10 ((l0_3.length : Int) != t132) a0_0 a0_1 a0_2 l0_3)) else (if a0_1.toList = ([] : List UInt8) then ((spec_ArityOf.f kj10 a0_0).bind fun t133 => (spec_l7Form.j2 kj10 ((l0_3.length : Int) != t133) a0_0 a0_1 a0_2 l0_3)) else (spec_l7Form.j2 kj10 true a0_0 a0_1 a0_2 l0_3)))) = some r := H
       have A19 := Aside0.mk A190
       clear A190
       by_cases c20 : (x4_10 != t131) = true
       ·rw [if_pos c20] at H
        have c20b0 : (x4_10 != t131) = true := c20
        (try (have c20b1 : decide (x4_10 = t131) = false := by simpa using c20))
        (try (have c20b2 : (x4_10 == t131) = false := by simpa using c20))
        (try (have c20b3 : ¬ (x4_10 = t131) := by simpa using c20))
        clear c20
        (first | rw [c20b0] | (simp only [i64_w, i32_w]; rw [c20b0]) | (rw [c20b2]; simp only [Bool.not_true, Bool.not_false]) | skip)
        have H' := Aside0.mk H
        clear H
        obtain ⟨hcz21_0, hcz21_1, hcz21_2, hcz21_3, hfz21_0, hfz21_1, hfz21_2, hfz21_3⟩ := box4_ BK128.out
        go_wp2_with (first | (go_at_call 64; (with_reducible refine (spec_IsName.calls kj10 a0_1 t131 _ A19.out).mono ?_); rintro e w' ⟨rfl, ⟨nd, rfl⟩⟩; (try first | exact ⟨rfl, _, World.drewN_drewN _ _ _⟩ | exact ⟨rfl, _, Eq.trans (World.drewN_drewN _ _ _) (congrArg (World.drewN _) (Nat.add_assoc _ _ _))⟩)))
        repeat (go_quiet (first | (go_at_call 64; (with_reducible refine (spec_IsName.calls kj10 a0_1 t131 _ A19.out).mono ?_); rintro e w' ⟨rfl, ⟨nd, rfl⟩⟩; (try first | exact ⟨rfl, _, World.drewN_drewN _ _ _⟩ | exact ⟨rfl, _, Eq.trans (World.drewN_drewN _ _ _) (congrArg (World.drewN _) (Nat.add_assoc _ _ _))⟩))); try go_wp2_with (first | (go_at_call 64; (with_reducible refine (spec_IsName.calls kj10 a0_1 t131 _ A19.out).mono ?_); rintro e w' ⟨rfl, ⟨nd, rfl⟩⟩; (try first | exact ⟨rfl, _, World.drewN_drewN _ _ _⟩ | exact ⟨rfl, _, Eq.trans (World.drewN_drewN _ _ _) (congrArg (World.drewN _) (Nat.add_assoc _ _ _))⟩))))
        go_meet
        case rel => exact ⟨_, (true), q_, H', ⟨by have := HK1.out; have := HJ10.out; first | omega | exact Nat.le_refl _⟩, ⟨K_ BK128.out⟩, ⟨B1_ HB.out GE128.out⟩⟩
       ·rw [if_neg c20] at H
        have c20b0 : (x4_10 != t131) = false := by simpa using c20
        (try (have c20b1 : decide (x4_10 = t131) = true := by simpa using c20))
        (try (have c20b2 : (x4_10 == t131) = true := by simpa using c20))
        clear c20
        (first | rw [c20b0] | (simp only [i64_w, i32_w]; rw [c20b0]) | (rw [c20b2]; simp only [Bool.not_true, Bool.not_false]) | skip)
        by_cases c22 : x4_10 = true
        ·subst c22
         have H1 : ((spec_ArityOf.f kj10 a0_0).bind fun t132 => (spec_l7Form.j2 kj10 ((l0_3.length : Int) != t132) a0_0 a0_1 a0_2 l0_3)) = some r := by rw [if_pos rfl] at H; exact H
         clear H
         have H := H1
         clear H1
         replace H := Option.bind_eq_some_iff.mp H
         obtain ⟨t132, A230, H⟩ := H
         replace H : (spec_l7Form.j2 kj10 ((l0_3.length : Int) != t132) a0_0 a0_1 a0_2 l0_3) = some r := H
         have A23 := Aside0.mk A230
         clear A230
         have H' := Aside0.mk H
         clear H
         obtain ⟨hcz24_0, hcz24_1, hcz24_2, hcz24_3, hfz24_0, hfz24_1, hfz24_2, hfz24_3⟩ := box4_ BK128.out
         go_wp2_with (first | (go_at_call 64; (with_reducible refine (spec_IsName.calls kj10 a0_1 t131 _ A19.out).mono ?_); rintro e w' ⟨rfl, ⟨nd, rfl⟩⟩; (try first | exact ⟨rfl, _, World.drewN_drewN _ _ _⟩ | exact ⟨rfl, _, Eq.trans (World.drewN_drewN _ _ _) (congrArg (World.drewN _) (Nat.add_assoc _ _ _))⟩)) | (go_at_call 33; (with_reducible refine (spec_ArityOf.calls kj10 a0_0 t132 _ A23.out).mono ?_); rintro e w' ⟨rfl, ⟨nd, rfl⟩⟩; (try first | exact ⟨rfl, _, World.drewN_drewN _ _ _⟩ | exact ⟨rfl, _, Eq.trans (World.drewN_drewN _ _ _) (congrArg (World.drewN _) (Nat.add_assoc _ _ _))⟩)))
         repeat (go_quiet (first | (go_at_call 64; (with_reducible refine (spec_IsName.calls kj10 a0_1 t131 _ A19.out).mono ?_); rintro e w' ⟨rfl, ⟨nd, rfl⟩⟩; (try first | exact ⟨rfl, _, World.drewN_drewN _ _ _⟩ | exact ⟨rfl, _, Eq.trans (World.drewN_drewN _ _ _) (congrArg (World.drewN _) (Nat.add_assoc _ _ _))⟩)) | (go_at_call 33; (with_reducible refine (spec_ArityOf.calls kj10 a0_0 t132 _ A23.out).mono ?_); rintro e w' ⟨rfl, ⟨nd, rfl⟩⟩; (try first | exact ⟨rfl, _, World.drewN_drewN _ _ _⟩ | exact ⟨rfl, _, Eq.trans (World.drewN_drewN _ _ _) (congrArg (World.drewN _) (Nat.add_assoc _ _ _))⟩))); try go_wp2_with (first | (go_at_call 64; (with_reducible refine (spec_IsName.calls kj10 a0_1 t131 _ A19.out).mono ?_); rintro e w' ⟨rfl, ⟨nd, rfl⟩⟩; (try first | exact ⟨rfl, _, World.drewN_drewN _ _ _⟩ | exact ⟨rfl, _, Eq.trans (World.drewN_drewN _ _ _) (congrArg (World.drewN _) (Nat.add_assoc _ _ _))⟩)) | (go_at_call 33; (with_reducible refine (spec_ArityOf.calls kj10 a0_0 t132 _ A23.out).mono ?_); rintro e w' ⟨rfl, ⟨nd, rfl⟩⟩; (try first | exact ⟨rfl, _, World.drewN_drewN _ _ _⟩ | exact ⟨rfl, _, Eq.trans (World.drewN_drewN _ _ _) (congrArg (World.drewN _) (Nat.add_assoc _ _ _))⟩))))
         go_meet
         case rel => exact ⟨_, (((l0_3.length : Int) != t132)), q_, H', ⟨by have := HK1.out; have := HJ10.out; first | omega | exact Nat.le_refl _⟩, ⟨K_ BK128.out⟩, ⟨B1_ HB.out GE128.out⟩⟩
        ·replace c22 := Bool.eq_false_iff.mpr c22
         subst c22
         have H1 : (if a0_1.toList = ([] : List UInt8) then ((spec_ArityOf.f kj10 a0_0).bind fun t133 => (spec_l7Form.j2 kj10 ((l0_3.length : Int) != t133) a0_0 a0_1 a0_2 l0_3)) else (spec_l7Form.j2 kj10 true a0_0 a0_1 a0_2 l0_3)) = some r := by rw [if_neg (show ¬ (false = true) by decide)] at H; exact H
         clear H
         have H := H1
         clear H1
         by_cases c25 : a0_1.toList = ([] : List UInt8)
         ·rw [if_pos c25] at H
          have c25b0 : (a0_1.toList == ([] : List UInt8)) = true := beq_iff_eq.mpr c25
          have c25b1 : (a0_1.toList != ([] : List UInt8)) = false := bne_eq_false_iff_eq.mpr c25
          clear c25
          replace H := Option.bind_eq_some_iff.mp H
          obtain ⟨t133, A260, H⟩ := H
          replace H : (spec_l7Form.j2 kj10 ((l0_3.length : Int) != t133) a0_0 a0_1 a0_2 l0_3) = some r := H
          have A26 := Aside0.mk A260
          clear A260
          have H' := Aside0.mk H
          clear H
          obtain ⟨hcz27_0, hcz27_1, hcz27_2, hcz27_3, hfz27_0, hfz27_1, hfz27_2, hfz27_3⟩ := box4_ BK128.out
          go_wp2_with (first | (go_at_call 64; (with_reducible refine (spec_IsName.calls kj10 a0_1 t131 _ A19.out).mono ?_); rintro e w' ⟨rfl, ⟨nd, rfl⟩⟩; (try first | exact ⟨rfl, _, World.drewN_drewN _ _ _⟩ | exact ⟨rfl, _, Eq.trans (World.drewN_drewN _ _ _) (congrArg (World.drewN _) (Nat.add_assoc _ _ _))⟩)) | (go_at_call 33; (with_reducible refine (spec_ArityOf.calls kj10 a0_0 t133 _ A26.out).mono ?_); rintro e w' ⟨rfl, ⟨nd, rfl⟩⟩; (try first | exact ⟨rfl, _, World.drewN_drewN _ _ _⟩ | exact ⟨rfl, _, Eq.trans (World.drewN_drewN _ _ _) (congrArg (World.drewN _) (Nat.add_assoc _ _ _))⟩)))
          repeat (go_quiet (first | (go_at_call 64; (with_reducible refine (spec_IsName.calls kj10 a0_1 t131 _ A19.out).mono ?_); rintro e w' ⟨rfl, ⟨nd, rfl⟩⟩; (try first | exact ⟨rfl, _, World.drewN_drewN _ _ _⟩ | exact ⟨rfl, _, Eq.trans (World.drewN_drewN _ _ _) (congrArg (World.drewN _) (Nat.add_assoc _ _ _))⟩)) | (go_at_call 33; (with_reducible refine (spec_ArityOf.calls kj10 a0_0 t133 _ A26.out).mono ?_); rintro e w' ⟨rfl, ⟨nd, rfl⟩⟩; (try first | exact ⟨rfl, _, World.drewN_drewN _ _ _⟩ | exact ⟨rfl, _, Eq.trans (World.drewN_drewN _ _ _) (congrArg (World.drewN _) (Nat.add_assoc _ _ _))⟩))); try go_wp2_with (first | (go_at_call 64; (with_reducible refine (spec_IsName.calls kj10 a0_1 t131 _ A19.out).mono ?_); rintro e w' ⟨rfl, ⟨nd, rfl⟩⟩; (try first | exact ⟨rfl, _, World.drewN_drewN _ _ _⟩ | exact ⟨rfl, _, Eq.trans (World.drewN_drewN _ _ _) (congrArg (World.drewN _) (Nat.add_assoc _ _ _))⟩)) | (go_at_call 33; (with_reducible refine (spec_ArityOf.calls kj10 a0_0 t133 _ A26.out).mono ?_); rintro e w' ⟨rfl, ⟨nd, rfl⟩⟩; (try first | exact ⟨rfl, _, World.drewN_drewN _ _ _⟩ | exact ⟨rfl, _, Eq.trans (World.drewN_drewN _ _ _) (congrArg (World.drewN _) (Nat.add_assoc _ _ _))⟩))))
          go_meet
          case rel => exact ⟨_, (((l0_3.length : Int) != t133)), q_, H', ⟨by have := HK1.out; have := HJ10.out; first | omega | exact Nat.le_refl _⟩, ⟨K_ BK128.out⟩, ⟨B1_ HB.out GE128.out⟩⟩
         ·rw [if_neg c25] at H
          have c25b0 : (a0_1.toList == ([] : List UInt8)) = false := beq_eq_false_iff_ne.mpr c25
          have c25b1 : (a0_1.toList != ([] : List UInt8)) = true := bne_iff_ne.mpr c25
          have H' := Aside0.mk H
          clear H
          obtain ⟨hcz28_0, hcz28_1, hcz28_2, hcz28_3, hfz28_0, hfz28_1, hfz28_2, hfz28_3⟩ := box4_ BK128.out
          go_wp2_with (first | (go_at_call 64; (with_reducible refine (spec_IsName.calls kj10 a0_1 t131 _ A19.out).mono ?_); rintro e w' ⟨rfl, ⟨nd, rfl⟩⟩; (try first | exact ⟨rfl, _, World.drewN_drewN _ _ _⟩ | exact ⟨rfl, _, Eq.trans (World.drewN_drewN _ _ _) (congrArg (World.drewN _) (Nat.add_assoc _ _ _))⟩)))
          repeat (go_quiet (first | (go_at_call 64; (with_reducible refine (spec_IsName.calls kj10 a0_1 t131 _ A19.out).mono ?_); rintro e w' ⟨rfl, ⟨nd, rfl⟩⟩; (try first | exact ⟨rfl, _, World.drewN_drewN _ _ _⟩ | exact ⟨rfl, _, Eq.trans (World.drewN_drewN _ _ _) (congrArg (World.drewN _) (Nat.add_assoc _ _ _))⟩))); try go_wp2_with (first | (go_at_call 64; (with_reducible refine (spec_IsName.calls kj10 a0_1 t131 _ A19.out).mono ?_); rintro e w' ⟨rfl, ⟨nd, rfl⟩⟩; (try first | exact ⟨rfl, _, World.drewN_drewN _ _ _⟩ | exact ⟨rfl, _, Eq.trans (World.drewN_drewN _ _ _) (congrArg (World.drewN _) (Nat.add_assoc _ _ _))⟩))))
          go_meet
          case rel => exact ⟨_, (true), q_, H', ⟨by have := HK1.out; have := HJ10.out; first | omega | exact Nat.le_refl _⟩, ⟨K_ BK128.out⟩, ⟨B1_ HB.out GE128.out⟩⟩
      case rest =>
       clear HC18
       try clear c3
       try clear c3b0
       try clear hcz12_0
       try clear hcz12_1
       try clear hcz12_2
       try clear hcz12_3
       try clear hfz12_0
       try clear hfz12_1
       try clear hfz12_2
       try clear hfz12_3
       obtain ⟨kq, x54_17, rfl, HA, HJ17, BK128, HB⟩ := hcut
       cases kq with
       | zero => exact absurd HA.out (by simp [spec_l7Form.j2])
       | succ kj17 =>
        have H := HA.out
        clear HA
        simp only [spec_l7Form.j2] at H
        by_cases c29 : x54_17 = true
        ·subst c29
         have H1 : (some false) = some r := by rw [if_pos rfl] at H; exact H
         clear H
         have H := H1
         clear H1
         obtain rfl := Option.some.inj H
         go_wp2
         repeat (go_quiet (fail); try go_wp2)
         go_ret
         exact ⟨er_, B1_ HB.out GE128.out⟩
        ·replace c29 := Bool.eq_false_iff.mpr c29
         subst c29
         have H1 : (if a0_0 = 6 then ((spec_l1In.f a0_2 0 1000).bind fun t134 => (some t134)) else (if a0_0 = 7 then ((spec_l1In.f a0_2 (-1000) 1000).bind fun t135 => (some t135)) else (some (a0_2 == 0)))) = some r := by rw [if_neg (show ¬ (false = true) by decide)] at H; exact H
         clear H
         have H := H1
         clear H1
         by_cases c30 : a0_0 = 6
         ·rw [if_pos c30] at H
          have c30b0 : (a0_0 == 6) = true := beq_iff_eq.mpr c30
          have c30b1 : (a0_0 != 6) = false := bne_eq_false_iff_eq.mpr c30
          clear c30
          replace H := Option.bind_eq_some_iff.mp H
          obtain ⟨t134, A310, H⟩ := H
          replace H : (some t134) = some r := H
          have A31 := Aside0.mk A310
          clear A310
          obtain rfl := Option.some.inj H
          obtain ⟨hcz32_0, hcz32_1, hcz32_2, hcz32_3, hfz32_0, hfz32_1, hfz32_2, hfz32_3⟩ := box4_ BK128.out
          go_wp2_with (first | (go_at_call 56; (with_reducible refine (spec_l1In.calls a0_2 0 1000 t134 _ A31.out).mono ?_); rintro e w' ⟨rfl, ⟨nd, rfl⟩⟩; (try first | exact ⟨rfl, _, World.drewN_drewN _ _ _⟩ | exact ⟨rfl, _, Eq.trans (World.drewN_drewN _ _ _) (congrArg (World.drewN _) (Nat.add_assoc _ _ _))⟩)))
          repeat (go_quiet (first | (go_at_call 56; (with_reducible refine (spec_l1In.calls a0_2 0 1000 t134 _ A31.out).mono ?_); rintro e w' ⟨rfl, ⟨nd, rfl⟩⟩; (try first | exact ⟨rfl, _, World.drewN_drewN _ _ _⟩ | exact ⟨rfl, _, Eq.trans (World.drewN_drewN _ _ _) (congrArg (World.drewN _) (Nat.add_assoc _ _ _))⟩))); try go_wp2_with (first | (go_at_call 56; (with_reducible refine (spec_l1In.calls a0_2 0 1000 t134 _ A31.out).mono ?_); rintro e w' ⟨rfl, ⟨nd, rfl⟩⟩; (try first | exact ⟨rfl, _, World.drewN_drewN _ _ _⟩ | exact ⟨rfl, _, Eq.trans (World.drewN_drewN _ _ _) (congrArg (World.drewN _) (Nat.add_assoc _ _ _))⟩))))
          go_ret
          exact ⟨er_, B1_ HB.out GE128.out⟩
         ·rw [if_neg c30] at H
          have c30b0 : (a0_0 == 6) = false := beq_eq_false_iff_ne.mpr c30
          have c30b1 : (a0_0 != 6) = true := bne_iff_ne.mpr c30
          by_cases c33 : a0_0 = 7
          ·rw [if_pos c33] at H
           have c33b0 : (a0_0 == 7) = true := beq_iff_eq.mpr c33
           have c33b1 : (a0_0 != 7) = false := bne_eq_false_iff_eq.mpr c33
           clear c33
           replace H := Option.bind_eq_some_iff.mp H
           obtain ⟨t135, A340, H⟩ := H
           replace H : (some t135) = some r := H
           have A34 := Aside0.mk A340
           clear A340
           obtain rfl := Option.some.inj H
           obtain ⟨hcz35_0, hcz35_1, hcz35_2, hcz35_3, hfz35_0, hfz35_1, hfz35_2, hfz35_3⟩ := box4_ BK128.out
           go_wp2_with (first | (go_at_call 56; (with_reducible refine (spec_l1In.calls a0_2 (-1000) 1000 t135 _ A34.out).mono ?_); rintro e w' ⟨rfl, ⟨nd, rfl⟩⟩; (try first | exact ⟨rfl, _, World.drewN_drewN _ _ _⟩ | exact ⟨rfl, _, Eq.trans (World.drewN_drewN _ _ _) (congrArg (World.drewN _) (Nat.add_assoc _ _ _))⟩)))
           repeat (go_quiet (first | (go_at_call 56; (with_reducible refine (spec_l1In.calls a0_2 (-1000) 1000 t135 _ A34.out).mono ?_); rintro e w' ⟨rfl, ⟨nd, rfl⟩⟩; (try first | exact ⟨rfl, _, World.drewN_drewN _ _ _⟩ | exact ⟨rfl, _, Eq.trans (World.drewN_drewN _ _ _) (congrArg (World.drewN _) (Nat.add_assoc _ _ _))⟩))); try go_wp2_with (first | (go_at_call 56; (with_reducible refine (spec_l1In.calls a0_2 (-1000) 1000 t135 _ A34.out).mono ?_); rintro e w' ⟨rfl, ⟨nd, rfl⟩⟩; (try first | exact ⟨rfl, _, World.drewN_drewN _ _ _⟩ | exact ⟨rfl, _, Eq.trans (World.drewN_drewN _ _ _) (congrArg (World.drewN _) (Nat.add_assoc _ _ _))⟩))))
           go_ret
           exact ⟨er_, B1_ HB.out GE128.out⟩
          ·rw [if_neg c33] at H
           have c33b0 : (a0_0 == 7) = false := beq_eq_false_iff_ne.mpr c33
           have c33b1 : (a0_0 != 7) = true := bne_iff_ne.mpr c33
           obtain rfl := Option.some.inj H
           obtain ⟨hcz36_0, hcz36_1, hcz36_2, hcz36_3, hfz36_0, hfz36_1, hfz36_2, hfz36_3⟩ := box4_ BK128.out
           go_wp2
           repeat (go_quiet (fail); try go_wp2)
           go_ret
           exact ⟨er_, B1_ HB.out GE128.out⟩

/-! ### spec_IsOptic: function 22 -/
def spec_IsOptic.f (k : Nat) (a0_0 : Int) (a0_1 : ByteArray) (a0_2 : Int) (l0_3 : List (S29)) : Option (Bool) := (spec_l7Left.f k a0_0 a0_1 a0_2 l0_3 20).bind fun t137 => (if t137 ≥ 0 then ((spec_DepthOf.f k a0_0 a0_1 a0_2 l0_3).bind fun t138 => (if t138 ≤ 10 then ((spec_l7Form.f k a0_0 a0_1 a0_2 l0_3).bind fun t139 => (some t139)) else (some false))) else (some false))
theorem spec_IsOptic.mono : ∀ a0 a1 a2 a3 k, LeO (spec_IsOptic.f k a0 a1 a2 a3) (spec_IsOptic.f (k + 1) a0 a1 a2 a3) := by
 intro a0 a1 a2 a3 k
 unfold spec_IsOptic.f
 repeat' first
   | (with_reducible exact spec_DepthOf.mono _ _ _ _ _)
   | (with_reducible exact spec_l7Form.mono _ _ _ _ _)
   | (with_reducible exact spec_l7Left.mono _ _ _ _ _ _)
   | (with_reducible exact LeO.refl _)
   | (with_reducible exact LeO.none _)
   | (with_reducible refine LeO.ite ?_ ?_)
   | (with_reducible refine LeO.bind ?_ (fun _ => ?_))
   | exact spec_DepthOf.mono _ _ _ _ _
   | exact spec_l7Form.mono _ _ _ _ _
   | exact spec_l7Left.mono _ _ _ _ _ _
   | exact LeO.none _
   | refine LeO.ite ?_ ?_
   | refine LeO.bind ?_ (fun _ => ?_)
set_option maxHeartbeats 8000000 in
set_option maxRecDepth 100000 in
theorem spec_IsOptic.calls (k : Nat) (a0_0 : Int) (a0_1 : ByteArray) (a0_2 : Int) (A0_3 : Option Addr) (c0_3 : Nat) (l0_3 : List (S29)) (r : Bool) (w : World) (hr0_3 : Kd.C k29 w A0_3 l0_3.length l0_3) (hc0_3 : l0_3.length ≤ c0_3) (h : spec_IsOptic.f k a0_0 a0_1 a0_2 l0_3 = some r) :
  Calls Try.prog 22 #[.agg #[.int .i64 a0_0, .string a0_1, .int .i64 a0_2, .slice A0_3 l0_3.length c0_3]] w fun e w' => e = .returned (.bool r) ∧ Below w.heap.size w w' := by
 have hu29 := Try.underlying29
 have HR0_3 := Aside0.mk hr0_3
 have HC0_3 := Aside0.mk hc0_3
 clear hr0_3 hc0_3
 have HB := Aside0.mk (Below.refl w.heap.size w)
 have H : ((spec_l7Left.f k a0_0 a0_1 a0_2 l0_3 20).bind fun t137 => (if t137 ≥ 0 then ((spec_DepthOf.f k a0_0 a0_1 a0_2 l0_3).bind fun t138 => (if t138 ≤ 10 then ((spec_l7Form.f k a0_0 a0_1 a0_2 l0_3).bind fun t139 => (some t139)) else (some false))) else (some false))) = some r := h
 clear h
 replace H := Option.bind_eq_some_iff.mp H
 obtain ⟨t137, A20, H⟩ := H
 replace H : (if t137 ≥ 0 then ((spec_DepthOf.f k a0_0 a0_1 a0_2 l0_3).bind fun t138 => (if t138 ≤ 10 then ((spec_l7Form.f k a0_0 a0_1 a0_2 l0_3).bind fun t139 => (some t139)) else (some false))) else (some false)) = some r := H
 have A2 := Aside0.mk A20
 clear A20
 by_cases c3 : t137 ≥ 0
 ·rw [if_pos c3] at H
  have c3b0 : decide (0 ≤ t137) = true := decide_eq_true c3
  clear c3
  replace H := Option.bind_eq_some_iff.mp H
  obtain ⟨t138, A40, H⟩ := H
  replace H : (if t138 ≤ 10 then ((spec_l7Form.f k a0_0 a0_1 a0_2 l0_3).bind fun t139 => (some t139)) else (some false)) = some r := H
  have A4 := Aside0.mk A40
  clear A40
  by_cases c5 : t138 ≤ 10
  ·rw [if_pos c5] at H
   have c5b0 : decide (t138 ≤ 10) = true := decide_eq_true c5
   clear c5
   replace H := Option.bind_eq_some_iff.mp H
   obtain ⟨t139, A60, H⟩ := H
   replace H : (some t139) = some r := H
   have A6 := Aside0.mk A60
   clear A60
   obtain rfl := Option.some.inj H
   go_enter Try.func22, Try.ntmps22
   go_wp2_with (first | ((with_reducible refine gate_dst (N := 1) rfl ?_); refine box_event ?hg (N := 1) ?hd (cs := #[.int .i64 a0_0, .string a0_1, .int .i64 a0_2, .slice A0_3 l0_3.length c0_3]) (t := 29) ?hr ?_; (case hd => rfl); (case hg => rfl); (case hr => first | (go_simp; done) | (go_simp; rfl)); intro gb136 hg w7 hbox hb; have BK136 := Aside0.mk (hbox); have GW136 := Aside0.mk ((by rw [hg]; exact (below_size (B0_ HB.out)) : w.heap.size ≤ gb136)); have GE136 := Aside0.mk ((by rw [hg]; exact (below_size (B0_ HB.out)) : w.heap.size ≤ gb136)); replace HB := Aside0.mk (below_step (B0_ HB.out) hb); clear hb hbox hg; obtain ⟨hcz8_0, hcz8_1, hcz8_2, hcz8_3, hfz8_0, hfz8_1, hfz8_2, hfz8_3⟩ := box4_ BK136.out) | ((with_reducible refine gate_callee (f := 46) rfl ?_); refine goesL_ (some 4) rfl rfl Try.func46 (by kernel_rfl) rfl #[.agg #[.int .i64 a0_0, .string a0_1, .int .i64 a0_2, .slice A0_3 l0_3.length c0_3], .int .i64 20] rfl ma_ ?_; (with_reducible refine (spec_l7Left.calls k a0_0 a0_1 a0_2 _ _ l0_3 20 t137 _ ?side1 ?side2 A2.out).mono ?_); (case side1 => exact C_ (Kd.C_below HR0_3.out HB.out)); (case side2 => exact HC0_3.out); rintro e w9 ⟨rfl, hb⟩; refine ⟨_, rfl, ?_⟩; replace BK136 := Aside0.mk (blk_below (K_ BK136.out) hb); replace HB := Aside0.mk (below_step (B1_ HB.out GE136.out) hb); (try clear hb); (try clear hb2); (try clear hk); (try clear hi); obtain ⟨hcz10_0, hcz10_1, hcz10_2, hcz10_3, hfz10_0, hfz10_1, hfz10_2, hfz10_3⟩ := box4_ BK136.out) | (go_at_call 18; (with_reducible refine (spec_DepthOf.calls k a0_0 a0_1 a0_2 _ _ l0_3 t138 _ ?side1 ?side2 A4.out).mono ?_); (case side1 => exact C_ (Kd.C_below HR0_3.out HB.out)); (case side2 => exact HC0_3.out); rintro e w11 ⟨rfl, hb⟩; replace BK136 := Aside0.mk (blk_below (K_ BK136.out) hb); replace HB := Aside0.mk (below_step (B1_ HB.out GE136.out) hb); (try clear hb); (try clear hb2); (try clear hk); (try clear hi); obtain ⟨hcz12_0, hcz12_1, hcz12_2, hcz12_3, hfz12_0, hfz12_1, hfz12_2, hfz12_3⟩ := box4_ BK136.out) | (go_at_call 47; (with_reducible refine (spec_l7Form.calls k a0_0 a0_1 a0_2 _ _ l0_3 t139 _ ?side1 ?side2 A6.out).mono ?_); (case side1 => exact C_ (Kd.C_below HR0_3.out HB.out)); (case side2 => exact HC0_3.out); rintro e w13 ⟨rfl, hb⟩; replace BK136 := Aside0.mk (blk_below (K_ BK136.out) hb); replace HB := Aside0.mk (below_step (B1_ HB.out GE136.out) hb); (try clear hb); (try clear hb2); (try clear hk); (try clear hi)))
   go_ret
   exact ⟨er_, B1_ HB.out GE136.out⟩
  ·rw [if_neg c5] at H
   have c5b0 : decide (t138 ≤ 10) = false := decide_eq_false c5
   clear c5
   obtain rfl := Option.some.inj H
   go_enter Try.func22, Try.ntmps22
   go_wp2_with (first | ((with_reducible refine gate_dst (N := 1) rfl ?_); refine box_event ?hg (N := 1) ?hd (cs := #[.int .i64 a0_0, .string a0_1, .int .i64 a0_2, .slice A0_3 l0_3.length c0_3]) (t := 29) ?hr ?_; (case hd => rfl); (case hg => rfl); (case hr => first | (go_simp; done) | (go_simp; rfl)); intro gb136 hg w14 hbox hb; have BK136 := Aside0.mk (hbox); have GW136 := Aside0.mk ((by rw [hg]; exact (below_size (B0_ HB.out)) : w.heap.size ≤ gb136)); have GE136 := Aside0.mk ((by rw [hg]; exact (below_size (B0_ HB.out)) : w.heap.size ≤ gb136)); replace HB := Aside0.mk (below_step (B0_ HB.out) hb); clear hb hbox hg; obtain ⟨hcz15_0, hcz15_1, hcz15_2, hcz15_3, hfz15_0, hfz15_1, hfz15_2, hfz15_3⟩ := box4_ BK136.out) | ((with_reducible refine gate_callee (f := 46) rfl ?_); refine goesL_ (some 4) rfl rfl Try.func46 (by kernel_rfl) rfl #[.agg #[.int .i64 a0_0, .string a0_1, .int .i64 a0_2, .slice A0_3 l0_3.length c0_3], .int .i64 20] rfl ma_ ?_; (with_reducible refine (spec_l7Left.calls k a0_0 a0_1 a0_2 _ _ l0_3 20 t137 _ ?side1 ?side2 A2.out).mono ?_); (case side1 => exact C_ (Kd.C_below HR0_3.out HB.out)); (case side2 => exact HC0_3.out); rintro e w16 ⟨rfl, hb⟩; refine ⟨_, rfl, ?_⟩; replace BK136 := Aside0.mk (blk_below (K_ BK136.out) hb); replace HB := Aside0.mk (below_step (B1_ HB.out GE136.out) hb); (try clear hb); (try clear hb2); (try clear hk); (try clear hi); obtain ⟨hcz17_0, hcz17_1, hcz17_2, hcz17_3, hfz17_0, hfz17_1, hfz17_2, hfz17_3⟩ := box4_ BK136.out) | (go_at_call 18; (with_reducible refine (spec_DepthOf.calls k a0_0 a0_1 a0_2 _ _ l0_3 t138 _ ?side1 ?side2 A4.out).mono ?_); (case side1 => exact C_ (Kd.C_below HR0_3.out HB.out)); (case side2 => exact HC0_3.out); rintro e w18 ⟨rfl, hb⟩; replace BK136 := Aside0.mk (blk_below (K_ BK136.out) hb); replace HB := Aside0.mk (below_step (B1_ HB.out GE136.out) hb); (try clear hb); (try clear hb2); (try clear hk); (try clear hi)))
   go_ret
   exact ⟨er_, B1_ HB.out GE136.out⟩
 ·rw [if_neg c3] at H
  have c3b0 : decide (0 ≤ t137) = false := decide_eq_false c3
  clear c3
  obtain rfl := Option.some.inj H
  go_enter Try.func22, Try.ntmps22
  go_wp2_with (first | ((with_reducible refine gate_dst (N := 1) rfl ?_); refine box_event ?hg (N := 1) ?hd (cs := #[.int .i64 a0_0, .string a0_1, .int .i64 a0_2, .slice A0_3 l0_3.length c0_3]) (t := 29) ?hr ?_; (case hd => rfl); (case hg => rfl); (case hr => first | (go_simp; done) | (go_simp; rfl)); intro gb136 hg w19 hbox hb; have BK136 := Aside0.mk (hbox); have GW136 := Aside0.mk ((by rw [hg]; exact (below_size (B0_ HB.out)) : w.heap.size ≤ gb136)); have GE136 := Aside0.mk ((by rw [hg]; exact (below_size (B0_ HB.out)) : w.heap.size ≤ gb136)); replace HB := Aside0.mk (below_step (B0_ HB.out) hb); clear hb hbox hg; obtain ⟨hcz20_0, hcz20_1, hcz20_2, hcz20_3, hfz20_0, hfz20_1, hfz20_2, hfz20_3⟩ := box4_ BK136.out) | ((with_reducible refine gate_callee (f := 46) rfl ?_); refine goesL_ (some 4) rfl rfl Try.func46 (by kernel_rfl) rfl #[.agg #[.int .i64 a0_0, .string a0_1, .int .i64 a0_2, .slice A0_3 l0_3.length c0_3], .int .i64 20] rfl ma_ ?_; (with_reducible refine (spec_l7Left.calls k a0_0 a0_1 a0_2 _ _ l0_3 20 t137 _ ?side1 ?side2 A2.out).mono ?_); (case side1 => exact C_ (Kd.C_below HR0_3.out HB.out)); (case side2 => exact HC0_3.out); rintro e w21 ⟨rfl, hb⟩; refine ⟨_, rfl, ?_⟩; replace BK136 := Aside0.mk (blk_below (K_ BK136.out) hb); replace HB := Aside0.mk (below_step (B1_ HB.out GE136.out) hb); (try clear hb); (try clear hb2); (try clear hk); (try clear hi)))
  go_ret
  exact ⟨er_, B1_ HB.out GE136.out⟩

end Go.Proofs.Ytibcndpadbipmaa.XF
