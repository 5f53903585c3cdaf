/- Short words for the printed texts of this seat: what a printed proof says again and again, said once. No statement. -/
import Derived.Test.YtingaflikkeefaaWMore
import Derived.ArgAppend
import Derived.Below
import Derived.BigQuiet
import Derived.Deep.AppendLies
import Derived.Deep.CutBlock
import Derived.Deep.DeepCutAuto
import Derived.Deep.Draws
import Derived.Deep.LoopGhost
import Derived.Deep.OwnRows
import Derived.Deep.QuietTactic
import Derived.Deep.RegionHeld3
import Derived.KernelRfl
import Derived.Laws.BitsLemmas
import Derived.Laws.BytesArg
import Derived.Laws.Cover1
import Derived.Laws.IdiomCopy
import Derived.Laws.MakeOwn
import Derived.Laws.OwnMore
import Derived.Laws.Rows
import Derived.Laws.Slices
import Derived.Lib.AppendStr
import Derived.Lib.ConvBytes
import Derived.Maps.AppendAt
import Derived.OrdersHeld
import Derived.OwnWalk
import Derived.RowKit
import Derived.RowKit3
import Derived.Tactics
import Derived.Test.YtingaflikkeefaaProg
import Derived.Test.YtingaflikkeefaaWApart
import Derived.Test.YtingaflikkeefaaWArr
import Derived.Test.YtingaflikkeefaaWAt
import Derived.Test.YtingaflikkeefaaWEqStruct
import Derived.Test.YtingaflikkeefaaWFoot
import Derived.Test.YtingaflikkeefaaWFootNe
import Derived.Test.YtingaflikkeefaaWFour
import Derived.Test.YtingaflikkeefaaWGuard
import Derived.Test.YtingaflikkeefaaWInv
import Derived.Test.YtingaflikkeefaaWInvWords
import Derived.Test.YtingaflikkeefaaWKept
import Derived.Test.YtingaflikkeefaaWLast
import Derived.Test.YtingaflikkeefaaWN
import Derived.Test.YtingaflikkeefaaWNEv
import Derived.Test.YtingaflikkeefaaWQPut
import Derived.Test.YtingaflikkeefaaWRepsOne
import Derived.Test.YtingaflikkeefaaWShare
import Derived.Test.YtingaflikkeefaaWTab
import Derived.Test.YtingaflikkeefaaWWords
import Derived.Test.YtingaflikkeefaaWZeros
import Derived.WalkKit
import Derived.WideLaws
namespace Go.Proofs.Ytingaflikkeefaa.Sq
open Go.RowKit Go.Proofs.YtingaflikkeefaaW.PrintWords Go.Proofs.YtingaflikkeefaaW.PrintLast Go.Proofs.YtingaflikkeefaaW.PrintMore

theorem K_ {P Q : Prop} (q : Q) (h : Q → P := by intro q; (with_reducible repeat (first | refine blk_drewN ?_ _ | refine blk_drew ?_ | refine blk_alloc ?_ _)); exact q) : P := h q
theorem V_ {P Q : Prop} (q : Q) (h : Q → P := by intro q; (with_reducible repeat (first | apply Kd.V_alloc | apply Kd.V_drewN | apply Kd.V_drew)); exact q) : P := h q
theorem R_ {P Q : Prop} (q : Q) (h : Q → P := by intro q; (with_reducible repeat (first | apply Kd.R_alloc | apply Kd.R_drewN | apply Kd.R_drew)); exact q) : P := h q
theorem N_ {P Q : Prop} (q : Q) (h : Q → P := by intro q; (with_reducible repeat (first | apply Kd.N_alloc | apply Kd.N_drewN | apply Kd.N_drew)); exact q) : P := h q
theorem C_ {P Q : Prop} (q : Q) (h : Q → P := by intro q; repeat (first | exact q | (with_reducible refine Kd.C_alloc ?_ _) | (with_reducible refine Kd.C_drewN ?_ _) | (with_reducible refine Kd.C_drew ?_))) : P := h q
theorem B0_ {P Q : Prop} (q : Q) (h : Q → P := by intro q; repeat (first | (with_reducible first | exact q | apply below_alloc | apply pw_below_drewN | apply below_drew1) | exact q)) : P := h q
theorem B1_ {P Q A : Prop} (q : Q) (a : A) (h : Q → A → P := by intro q a; repeat (first | (with_reducible first | exact q | apply below_alloc | apply pw_below_drewN | apply below_drew1 | refine below_set ?_ a) | exact q)) : P := h q a
theorem B2_ {P Q A B : Prop} (q : Q) (a : A) (b : B) (h : Q → A → B → P := by intro q a b; repeat (first | (with_reducible first | exact q | apply below_alloc | apply pw_below_drewN | apply below_drew1 | refine below_set ?_ a | refine below_set ?_ b) | exact q)) : P := h q a b
theorem B3_ {P Q A B C : Prop} (q : Q) (a : A) (b : B) (c : C) (h : Q → A → B → C → P := by intro q a b c; repeat (first | (with_reducible first | exact q | apply below_alloc | apply pw_below_drewN | apply below_drew1 | refine below_set ?_ a | refine below_set ?_ b | refine below_set ?_ c) | exact q)) : P := h q a b c
theorem q_ {P : Prop} (h : P := by first | rfl | (simp; done) | (simp [*]; done)) : P := h
theorem le_ {P : Prop} (h : P := by first | omega | exact Nat.le_refl _) : P := h
theorem er_ {P : Prop} (h : P := by first | rfl | (simp [errW_none, errW_some] <;> rfl) | (simp [*, errW_none, errW_some] <;> rfl)) : P := h
theorem ma_ {P : Prop} (h : P := by (try simp only [List.map_toArray, List.map_cons, List.map_nil]); first | done | rfl | (simp only [List.length_drop, List.length_take]; rfl)) : P := h
theorem de_ {p : Prop} [Decidable p] (h : decide p = true := by first | (with_reducible assumption) | assumption) : p := of_decide_eq_true h

/-- So many flags: the bits of a number. -/
def mk_ (n b : Nat) : Array Bool := ((List.range n).map b.testBit).toArray

section
variable {P : Program} {ops : Array Oper} {Q : Exit → Act → World → Prop} {md : Region.Mode} {S : World → Prop} {ds : List Nat} {T : Bool × List (List Nat × List Nat)} {B : List Nat}
theorem pu_ (hT : Aside0 (rtab md ops = T)) {i : Nat} {N : Option Tmp} {oi : Oper} {v : Value} {fuel : Nat} {l : Array Bool} {a : Act} {w : World} (l' : Array Bool) (hi : ops[i]? = some oi) (hN : oi.dst = N) {a' : Act}
    (h : wpAnyLast P md ops Q S ds fuel l' a' w)
    (hc : anyT T l.toList l'.toList i = true := by kernel_rfl)
    (hQ : ∀ c a w, Q (.panic c) (a.put oi.dst v) w → Q (.panic c) a w := by exact fun _ _ _ h => h) (hw : Region.wanted oi (yielded ops a.tmps) = true := by rfl)
    (hv : ∀ w, (execOp a.eval oi).run P w = .ok (.value v) w := by intro w'; go_simp; with_reducible rfl)
    (ha : a.put N v = a' := by simp only [Act.put, List.setIfInBounds_toArray, List.set_cons_zero, List.set_cons_succ, i64_w, i32_w]; rfl) : wpAnyLast P md ops Q S ds (fuel + 1) l a w :=
  pure_ l' hi hN (any_of hT.out hc) hQ (Or.inl ⟨hw, hv⟩) ha h
theorem un_ (hT : Aside0 (rtab md ops = T)) {i : Nat} {N : Option Tmp} {oi : Oper} {fuel : Nat} {l : Array Bool} {a : Act} {w : World} (l' : Array Bool) (hi : ops[i]? = some oi) (hN : oi.dst = N) {a' : Act}
    (h : wpAnyLast P md ops Q S ds fuel l' a' w)
    (hc : anyT T l.toList l'.toList i = true := by kernel_rfl)
    (hQ : ∀ c a w, Q (.panic c) (a.put oi.dst undef) w → Q (.panic c) a w := by exact fun _ _ _ h => h) (hw : Region.wanted oi (yielded ops a.tmps) = false := by rfl)
    (ha : a.put N undef = a' := by simp only [Act.put, List.setIfInBounds_toArray, List.set_cons_zero, List.set_cons_succ, i64_w, i32_w]; rfl) : wpAnyLast P md ops Q S ds (fuel + 1) l a w :=
  pure_ l' hi hN (any_of hT.out hc) hQ (Or.inr ⟨hw, rfl⟩) ha h
theorem tk_ (hT : Aside0 (rtab md ops = T)) (hB : Aside0 (waitsOk T.2 B = true)) {w : World} (hS : S w) {i : Nat} {N : Option Tmp} {oi : Oper} {v : Value} {fuel : Nat} {l : Array Bool} {a : Act} (l' : Array Bool) (hi : ops[i]? = some oi) (hN : oi.dst = N) {a' : Act}
    (h : wpAnyLast P md ops Q S ds fuel l' a' w)
    (hc : takeW T B ds l.toList l'.toList i = true := by kernel_rfl)
    (hQ : ∀ c a w, Q (.panic c) (a.put oi.dst v) w → Q (.panic c) a w := by exact fun _ _ _ h => h) (hw : Region.wanted oi (yielded ops a.tmps) = true := by rfl)
    (hv : ∀ w, S w → (execOp a.eval oi).run P w = .ok (.value v) w := by intro w' hs_; (repeat (have hs1_ := And.left hs_; replace hs_ := And.right hs_)); go_simp; with_reducible rfl)
    (ha : a.put N v = a' := by simp only [Act.put, List.setIfInBounds_toArray, List.set_cons_zero, List.set_cons_succ, i64_w, i32_w]; rfl) : wpAnyLast P md ops Q S ds (fuel + 1) l a w :=
  take_ l' hi hN (take_ofW hT.out hB.out hc) hQ (Or.inl ⟨hw, hv⟩) hS ha h
theorem on_ (hT : Aside0 (rtab md ops = T)) {i : Nat} {N : Option Tmp} {oi : Oper} {fuel : Nat} {l : Array Bool} {a : Act} {w : World} (l' : Array Bool) (hi : ops[i]? = some oi) (hN : oi.dst = N)
    (h : ∀ K : Act → World → Prop, Shut (∀ a' w', S w' → (S w' → wpAnyLast P md ops Q S ds fuel l' a' w') → K a' w') → if Region.wanted oi (yielded ops a.tmps) = true then Oper.wp P oi a w K Q else K (a.put N undef) w)
    (hc : (readyT T.2 l.toList == [i] && l.toList.set i true == l'.toList) = true := by kernel_rfl) (hd : i ∉ ds := by decide) : wpAnyLast P md ops Q S ds (fuel + 1) l a w :=
  one_ l' hi hN (one_of hT.out hc) hd h
theorem nm_ {fuel : Nat} {l : Array Bool} {a : Act} (N : Option Tmp) {v : Value} {a' : Act} {w : World} (h : wpAnyLast P md ops Q S ds fuel l a' w)
    (ha : a.put N v = a' := by simp only [Act.put, List.setIfInBounds_toArray, List.set_cons_zero, List.set_cons_succ, i64_w, i32_w]; rfl) : wpAnyLast P md ops Q S ds fuel l (a.put N v) w := norm_ ha h
end
theorem B4_ {P Q A0 A1 A2 A3 : Prop} (q : Q) (b0 : A0) (b1 : A1) (b2 : A2) (b3 : A3) (h : Q → A0 → A1 → A2 → A3 → P := by intro q b0 b1 b2 b3; repeat (first | (with_reducible first | exact q | apply below_alloc | apply pw_below_drewN | apply below_drew1 | refine below_set ?_ b0 | refine below_set ?_ b1 | refine below_set ?_ b2 | refine below_set ?_ b3) | exact q)) : P := h q b0 b1 b2 b3
theorem B5_ {P Q A0 A1 A2 A3 A4 : Prop} (q : Q) (b0 : A0) (b1 : A1) (b2 : A2) (b3 : A3) (b4 : A4) (h : Q → A0 → A1 → A2 → A3 → A4 → P := by intro q b0 b1 b2 b3 b4; repeat (first | (with_reducible first | exact q | apply below_alloc | apply pw_below_drewN | apply below_drew1 | refine below_set ?_ b0 | refine below_set ?_ b1 | refine below_set ?_ b2 | refine below_set ?_ b3 | refine below_set ?_ b4) | exact q)) : P := h q b0 b1 b2 b3 b4
theorem B6_ {P Q A0 A1 A2 A3 A4 A5 : Prop} (q : Q) (b0 : A0) (b1 : A1) (b2 : A2) (b3 : A3) (b4 : A4) (b5 : A5) (h : Q → A0 → A1 → A2 → A3 → A4 → A5 → P := by intro q b0 b1 b2 b3 b4 b5; repeat (first | (with_reducible first | exact q | apply below_alloc | apply pw_below_drewN | apply below_drew1 | refine below_set ?_ b0 | refine below_set ?_ b1 | refine below_set ?_ b2 | refine below_set ?_ b3 | refine below_set ?_ b4 | refine below_set ?_ b5) | exact q)) : P := h q b0 b1 b2 b3 b4 b5
theorem B7_ {P Q A0 A1 A2 A3 A4 A5 A6 : Prop} (q : Q) (b0 : A0) (b1 : A1) (b2 : A2) (b3 : A3) (b4 : A4) (b5 : A5) (b6 : A6) (h : Q → A0 → A1 → A2 → A3 → A4 → A5 → A6 → P := by intro q b0 b1 b2 b3 b4 b5 b6; repeat (first | (with_reducible first | exact q | apply below_alloc | apply pw_below_drewN | apply below_drew1 | refine below_set ?_ b0 | refine below_set ?_ b1 | refine below_set ?_ b2 | refine below_set ?_ b3 | refine below_set ?_ b4 | refine below_set ?_ b5 | refine below_set ?_ b6) | exact q)) : P := h q b0 b1 b2 b3 b4 b5 b6
theorem B8_ {P Q A0 A1 A2 A3 A4 A5 A6 A7 : Prop} (q : Q) (b0 : A0) (b1 : A1) (b2 : A2) (b3 : A3) (b4 : A4) (b5 : A5) (b6 : A6) (b7 : A7) (h : Q → A0 → A1 → A2 → A3 → A4 → A5 → A6 → A7 → P := by intro q b0 b1 b2 b3 b4 b5 b6 b7; repeat (first | (with_reducible first | exact q | apply below_alloc | apply pw_below_drewN | apply below_drew1 | refine below_set ?_ b0 | refine below_set ?_ b1 | refine below_set ?_ b2 | refine below_set ?_ b3 | refine below_set ?_ b4 | refine below_set ?_ b5 | refine below_set ?_ b6 | refine below_set ?_ b7) | exact q)) : P := h q b0 b1 b2 b3 b4 b5 b6 b7
theorem D_ {P Q : Prop} (q : Q) (h : Q → P := by intro q; repeat (first | (with_reducible exact q) | (with_reducible refine Kd.C_alloc ?_ _) | (with_reducible refine Kd.C_drewN ?_ _) | (with_reducible refine Kd.C_drew ?_) | exact q)) : P := h q
theorem G0_ {P Q : Prop} (q : Q)  (h : Q → P := by intro q ; repeat (first | (with_reducible first | exact q | apply KeepBut.set_ | apply keep_drewN | apply keep_drew | apply keep_alloc) | exact q)) : P := h q 
theorem G1_ {P Q A0 : Prop} (q : Q) (b0 : A0) (h : Q → A0 → P := by intro q b0; repeat (first | (with_reducible first | exact q | apply KeepBut.set_ | apply keep_drewN | apply keep_drew | apply keep_alloc | refine keep_far ?_ b0 _) | exact q)) : P := h q b0
theorem G2_ {P Q A0 A1 : Prop} (q : Q) (b0 : A0) (b1 : A1) (h : Q → A0 → A1 → P := by intro q b0 b1; repeat (first | (with_reducible first | exact q | apply KeepBut.set_ | apply keep_drewN | apply keep_drew | apply keep_alloc | refine keep_far ?_ b0 _ | refine keep_far ?_ b1 _) | exact q)) : P := h q b0 b1
theorem G3_ {P Q A0 A1 A2 : Prop} (q : Q) (b0 : A0) (b1 : A1) (b2 : A2) (h : Q → A0 → A1 → A2 → P := by intro q b0 b1 b2; repeat (first | (with_reducible first | exact q | apply KeepBut.set_ | apply keep_drewN | apply keep_drew | apply keep_alloc | refine keep_far ?_ b0 _ | refine keep_far ?_ b1 _ | refine keep_far ?_ b2 _) | exact q)) : P := h q b0 b1 b2
theorem G4_ {P Q A0 A1 A2 A3 : Prop} (q : Q) (b0 : A0) (b1 : A1) (b2 : A2) (b3 : A3) (h : Q → A0 → A1 → A2 → A3 → P := by intro q b0 b1 b2 b3; repeat (first | (with_reducible first | exact q | apply KeepBut.set_ | apply keep_drewN | apply keep_drew | apply keep_alloc | refine keep_far ?_ b0 _ | refine keep_far ?_ b1 _ | refine keep_far ?_ b2 _ | refine keep_far ?_ b3 _) | exact q)) : P := h q b0 b1 b2 b3
theorem G5_ {P Q A0 A1 A2 A3 A4 : Prop} (q : Q) (b0 : A0) (b1 : A1) (b2 : A2) (b3 : A3) (b4 : A4) (h : Q → A0 → A1 → A2 → A3 → A4 → P := by intro q b0 b1 b2 b3 b4; repeat (first | (with_reducible first | exact q | apply KeepBut.set_ | apply keep_drewN | apply keep_drew | apply keep_alloc | refine keep_far ?_ b0 _ | refine keep_far ?_ b1 _ | refine keep_far ?_ b2 _ | refine keep_far ?_ b3 _ | refine keep_far ?_ b4 _) | exact q)) : P := h q b0 b1 b2 b3 b4
theorem G6_ {P Q A0 A1 A2 A3 A4 A5 : Prop} (q : Q) (b0 : A0) (b1 : A1) (b2 : A2) (b3 : A3) (b4 : A4) (b5 : A5) (h : Q → A0 → A1 → A2 → A3 → A4 → A5 → P := by intro q b0 b1 b2 b3 b4 b5; repeat (first | (with_reducible first | exact q | apply KeepBut.set_ | apply keep_drewN | apply keep_drew | apply keep_alloc | refine keep_far ?_ b0 _ | refine keep_far ?_ b1 _ | refine keep_far ?_ b2 _ | refine keep_far ?_ b3 _ | refine keep_far ?_ b4 _ | refine keep_far ?_ b5 _) | exact q)) : P := h q b0 b1 b2 b3 b4 b5
theorem G7_ {P Q A0 A1 A2 A3 A4 A5 A6 : Prop} (q : Q) (b0 : A0) (b1 : A1) (b2 : A2) (b3 : A3) (b4 : A4) (b5 : A5) (b6 : A6) (h : Q → A0 → A1 → A2 → A3 → A4 → A5 → A6 → P := by intro q b0 b1 b2 b3 b4 b5 b6; repeat (first | (with_reducible first | exact q | apply KeepBut.set_ | apply keep_drewN | apply keep_drew | apply keep_alloc | refine keep_far ?_ b0 _ | refine keep_far ?_ b1 _ | refine keep_far ?_ b2 _ | refine keep_far ?_ b3 _ | refine keep_far ?_ b4 _ | refine keep_far ?_ b5 _ | refine keep_far ?_ b6 _) | exact q)) : P := h q b0 b1 b2 b3 b4 b5 b6
theorem G8_ {P Q A0 A1 A2 A3 A4 A5 A6 A7 : Prop} (q : Q) (b0 : A0) (b1 : A1) (b2 : A2) (b3 : A3) (b4 : A4) (b5 : A5) (b6 : A6) (b7 : A7) (h : Q → A0 → A1 → A2 → A3 → A4 → A5 → A6 → A7 → P := by intro q b0 b1 b2 b3 b4 b5 b6 b7; repeat (first | (with_reducible first | exact q | apply KeepBut.set_ | apply keep_drewN | apply keep_drew | apply keep_alloc | refine keep_far ?_ b0 _ | refine keep_far ?_ b1 _ | refine keep_far ?_ b2 _ | refine keep_far ?_ b3 _ | refine keep_far ?_ b4 _ | refine keep_far ?_ b5 _ | refine keep_far ?_ b6 _ | refine keep_far ?_ b7 _) | exact q)) : P := h q b0 b1 b2 b3 b4 b5 b6 b7
theorem box1_ {w : World} {g : Nat} {t : TypeId} {a0 : Value} (h : w.heap[g]? = some (.cells #[a0] t (0, 0))) : w.cell? ⟨g, 0, none⟩ = some a0 ∧ w.frozen? ⟨g, 0, none⟩ = false := ⟨(blk_cell h 0).trans rfl, blk_frozen h 0⟩
theorem box2_ {w : World} {g : Nat} {t : TypeId} {a0 a1 : Value} (h : w.heap[g]? = some (.cells #[a0, a1] t (0, 0))) : w.cell? ⟨g, 0, none⟩ = some a0 ∧ w.cell? ⟨g, 1, none⟩ = some a1 ∧ w.frozen? ⟨g, 0, none⟩ = false ∧ w.frozen? ⟨g, 1, none⟩ = false := ⟨(blk_cell h 0).trans rfl, (blk_cell h 1).trans rfl, blk_frozen h 0, blk_frozen h 1⟩
theorem box3_ {w : World} {g : Nat} {t : TypeId} {a0 a1 a2 : Value} (h : w.heap[g]? = some (.cells #[a0, a1, a2] t (0, 0))) : w.cell? ⟨g, 0, none⟩ = some a0 ∧ w.cell? ⟨g, 1, none⟩ = some a1 ∧ w.cell? ⟨g, 2, none⟩ = some a2 ∧ w.frozen? ⟨g, 0, none⟩ = false ∧ w.frozen? ⟨g, 1, none⟩ = false ∧ w.frozen? ⟨g, 2, none⟩ = false := ⟨(blk_cell h 0).trans rfl, (blk_cell h 1).trans rfl, (blk_cell h 2).trans rfl, blk_frozen h 0, blk_frozen h 1, blk_frozen h 2⟩
theorem box4_ {w : World} {g : Nat} {t : TypeId} {a0 a1 a2 a3 : Value} (h : w.heap[g]? = some (.cells #[a0, a1, a2, a3] t (0, 0))) : w.cell? ⟨g, 0, none⟩ = some a0 ∧ w.cell? ⟨g, 1, none⟩ = some a1 ∧ w.cell? ⟨g, 2, none⟩ = some a2 ∧ w.cell? ⟨g, 3, none⟩ = some a3 ∧ w.frozen? ⟨g, 0, none⟩ = false ∧ w.frozen? ⟨g, 1, none⟩ = false ∧ w.frozen? ⟨g, 2, none⟩ = false ∧ w.frozen? ⟨g, 3, none⟩ = false := ⟨(blk_cell h 0).trans rfl, (blk_cell h 1).trans rfl, (blk_cell h 2).trans rfl, (blk_cell h 3).trans rfl, blk_frozen h 0, blk_frozen h 1, blk_frozen h 2, blk_frozen h 3⟩
theorem box5_ {w : World} {g : Nat} {t : TypeId} {a0 a1 a2 a3 a4 : Value} (h : w.heap[g]? = some (.cells #[a0, a1, a2, a3, a4] t (0, 0))) : w.cell? ⟨g, 0, none⟩ = some a0 ∧ w.cell? ⟨g, 1, none⟩ = some a1 ∧ w.cell? ⟨g, 2, none⟩ = some a2 ∧ w.cell? ⟨g, 3, none⟩ = some a3 ∧ w.cell? ⟨g, 4, none⟩ = some a4 ∧ w.frozen? ⟨g, 0, none⟩ = false ∧ w.frozen? ⟨g, 1, none⟩ = false ∧ w.frozen? ⟨g, 2, none⟩ = false ∧ w.frozen? ⟨g, 3, none⟩ = false ∧ w.frozen? ⟨g, 4, none⟩ = false := ⟨(blk_cell h 0).trans rfl, (blk_cell h 1).trans rfl, (blk_cell h 2).trans rfl, (blk_cell h 3).trans rfl, (blk_cell h 4).trans rfl, blk_frozen h 0, blk_frozen h 1, blk_frozen h 2, blk_frozen h 3, blk_frozen h 4⟩
theorem box6_ {w : World} {g : Nat} {t : TypeId} {a0 a1 a2 a3 a4 a5 : Value} (h : w.heap[g]? = some (.cells #[a0, a1, a2, a3, a4, a5] t (0, 0))) : w.cell? ⟨g, 0, none⟩ = some a0 ∧ w.cell? ⟨g, 1, none⟩ = some a1 ∧ w.cell? ⟨g, 2, none⟩ = some a2 ∧ w.cell? ⟨g, 3, none⟩ = some a3 ∧ w.cell? ⟨g, 4, none⟩ = some a4 ∧ w.cell? ⟨g, 5, none⟩ = some a5 ∧ w.frozen? ⟨g, 0, none⟩ = false ∧ w.frozen? ⟨g, 1, none⟩ = false ∧ w.frozen? ⟨g, 2, none⟩ = false ∧ w.frozen? ⟨g, 3, none⟩ = false ∧ w.frozen? ⟨g, 4, none⟩ = false ∧ w.frozen? ⟨g, 5, none⟩ = false := ⟨(blk_cell h 0).trans rfl, (blk_cell h 1).trans rfl, (blk_cell h 2).trans rfl, (blk_cell h 3).trans rfl, (blk_cell h 4).trans rfl, (blk_cell h 5).trans rfl, blk_frozen h 0, blk_frozen h 1, blk_frozen h 2, blk_frozen h 3, blk_frozen h 4, blk_frozen h 5⟩
theorem box7_ {w : World} {g : Nat} {t : TypeId} {a0 a1 a2 a3 a4 a5 a6 : Value} (h : w.heap[g]? = some (.cells #[a0, a1, a2, a3, a4, a5, a6] t (0, 0))) : w.cell? ⟨g, 0, none⟩ = some a0 ∧ w.cell? ⟨g, 1, none⟩ = some a1 ∧ w.cell? ⟨g, 2, none⟩ = some a2 ∧ w.cell? ⟨g, 3, none⟩ = some a3 ∧ w.cell? ⟨g, 4, none⟩ = some a4 ∧ w.cell? ⟨g, 5, none⟩ = some a5 ∧ w.cell? ⟨g, 6, none⟩ = some a6 ∧ w.frozen? ⟨g, 0, none⟩ = false ∧ w.frozen? ⟨g, 1, none⟩ = false ∧ w.frozen? ⟨g, 2, none⟩ = false ∧ w.frozen? ⟨g, 3, none⟩ = false ∧ w.frozen? ⟨g, 4, none⟩ = false ∧ w.frozen? ⟨g, 5, none⟩ = false ∧ w.frozen? ⟨g, 6, none⟩ = false := ⟨(blk_cell h 0).trans rfl, (blk_cell h 1).trans rfl, (blk_cell h 2).trans rfl, (blk_cell h 3).trans rfl, (blk_cell h 4).trans rfl, (blk_cell h 5).trans rfl, (blk_cell h 6).trans rfl, blk_frozen h 0, blk_frozen h 1, blk_frozen h 2, blk_frozen h 3, blk_frozen h 4, blk_frozen h 5, blk_frozen h 6⟩
theorem box8_ {w : World} {g : Nat} {t : TypeId} {a0 a1 a2 a3 a4 a5 a6 a7 : Value} (h : w.heap[g]? = some (.cells #[a0, a1, a2, a3, a4, a5, a6, a7] t (0, 0))) : w.cell? ⟨g, 0, none⟩ = some a0 ∧ w.cell? ⟨g, 1, none⟩ = some a1 ∧ w.cell? ⟨g, 2, none⟩ = some a2 ∧ w.cell? ⟨g, 3, none⟩ = some a3 ∧ w.cell? ⟨g, 4, none⟩ = some a4 ∧ w.cell? ⟨g, 5, none⟩ = some a5 ∧ w.cell? ⟨g, 6, none⟩ = some a6 ∧ w.cell? ⟨g, 7, none⟩ = some a7 ∧ w.frozen? ⟨g, 0, none⟩ = false ∧ w.frozen? ⟨g, 1, none⟩ = false ∧ w.frozen? ⟨g, 2, none⟩ = false ∧ w.frozen? ⟨g, 3, none⟩ = false ∧ w.frozen? ⟨g, 4, none⟩ = false ∧ w.frozen? ⟨g, 5, none⟩ = false ∧ w.frozen? ⟨g, 6, none⟩ = false ∧ w.frozen? ⟨g, 7, none⟩ = false := ⟨(blk_cell h 0).trans rfl, (blk_cell h 1).trans rfl, (blk_cell h 2).trans rfl, (blk_cell h 3).trans rfl, (blk_cell h 4).trans rfl, (blk_cell h 5).trans rfl, (blk_cell h 6).trans rfl, (blk_cell h 7).trans rfl, blk_frozen h 0, blk_frozen h 1, blk_frozen h 2, blk_frozen h 3, blk_frozen h 4, blk_frozen h 5, blk_frozen h 6, blk_frozen h 7⟩
theorem rb_ {α : Type} {d : Kd α} {e : TypeId} {W w1 : World} {base : Nat} {ok : Nat → Prop} {v : Value} {xs : List α} {q : Prop} (a : Aside0 q) (hb : Below W.heap.size W w1) (h : q → Kd.R d e W base ok v xs := by intro q; (with_reducible repeat (first | apply Kd.R_alloc | apply Kd.R_drewN | apply Kd.R_drew)); exact q) : Aside0 (Kd.R d e w1 base ok v xs) := ⟨Kd.R_below (h a.out) hb⟩
theorem lrb_ {α : Type} {d : Kd α} {e : TypeId} {W : World} {base : Nat} {ok : Nat → Prop} {A : Option Addr} {n c : Nat} {xs : List α} (a : Aside0 (Kd.R d e W base ok (.slice A n c) xs)) : n ≤ c := (Kd.R_reads' a.out).2.1
theorem crb_ {α : Type} {d : Kd α} {e : TypeId} {W : World} {base : Nat} {ok : Nat → Prop} {A : Option Addr} {n c : Nat} {xs : List α} {P : Prop} (a : Aside0 (Kd.R d e W base ok (.slice A n c) xs)) (h : Kd.C d W A xs.length xs → P := by intro q; repeat (first | exact q | (with_reducible refine Kd.C_alloc ?_ _) | (with_reducible refine Kd.C_drewN ?_ _) | (with_reducible refine Kd.C_drew ?_))) : P := h (Kd.R_reads' a.out).2.2
theorem nb_ {α : Type} {d : Kd α} {e : TypeId} {W w1 : World} {base : Nat} {ok : Nat → Prop} {v : Value} {xs : List α} {q : Prop} (a : Aside0 q) (hb : Below W.heap.size W w1) (h : q → Kd.N d e W base ok v xs := by intro q; (with_reducible repeat (first | apply Kd.N_alloc | apply Kd.N_drewN | apply Kd.N_drew)); exact q) : Aside0 (Kd.N d e w1 base ok v xs) := ⟨Kd.N_below (h a.out) hb⟩
theorem lnb_ {α : Type} {d : Kd α} {e : TypeId} {W : World} {base : Nat} {ok : Nat → Prop} {A : Option Addr} {n c : Nat} {xs : List α} (a : Aside0 (Kd.N d e W base ok (.slice A n c) xs)) : n ≤ c := (Kd.N_reads' a.out).2.1
theorem cnb_ {α : Type} {d : Kd α} {e : TypeId} {W : World} {base : Nat} {ok : Nat → Prop} {A : Option Addr} {n c : Nat} {xs : List α} {P : Prop} (a : Aside0 (Kd.N d e W base ok (.slice A n c) xs)) (h : Kd.C d W A xs.length xs → P := by intro q; repeat (first | exact q | (with_reducible refine Kd.C_alloc ?_ _) | (with_reducible refine Kd.C_drewN ?_ _) | (with_reducible refine Kd.C_drew ?_))) : P := h (Kd.N_reads' a.out).2.2
theorem vb_ {α : Type} {d : Kd α} {e : TypeId} {W w1 : World} {base : Nat} {ok : Nat → Prop} {v : Value} {xs : List α} {q : Prop} (a : Aside0 q) (hb : Below W.heap.size W w1) (h : q → Kd.V d e W base ok v xs := by intro q; (with_reducible repeat (first | apply Kd.V_alloc | apply Kd.V_drewN | apply Kd.V_drew)); exact q) : Aside0 (Kd.V d e w1 base ok v xs) := ⟨Kd.V_below (h a.out) hb⟩
theorem lvb_ {α : Type} {d : Kd α} {e : TypeId} {W : World} {base : Nat} {ok : Nat → Prop} {A : Option Addr} {n c : Nat} {xs : List α} (a : Aside0 (Kd.V d e W base ok (.slice A n c) xs)) : n ≤ c := (Kd.V_reads' a.out).2.1
theorem cvb_ {α : Type} {d : Kd α} {e : TypeId} {W : World} {base : Nat} {ok : Nat → Prop} {A : Option Addr} {n c : Nat} {xs : List α} {P : Prop} (a : Aside0 (Kd.V d e W base ok (.slice A n c) xs)) (h : Kd.C d W A xs.length xs → P := by intro q; repeat (first | exact q | (with_reducible refine Kd.C_alloc ?_ _) | (with_reducible refine Kd.C_drewN ?_ _) | (with_reducible refine Kd.C_drew ?_))) : P := h (Kd.V_reads' a.out).2.2
theorem kb_ {w w1 : World} {g : Nat} {o : Obj} {q : Prop} (a : Aside0 q) (hb : Below w.heap.size w w1) (h : q → w.heap[g]? = some o := by intro q; (with_reducible repeat (first | refine blk_drewN ?_ _ | refine blk_drew ?_ | refine blk_alloc ?_ _)); exact q) : Aside0 (w1.heap[g]? = some o) := ⟨blk_below (h a.out) hb⟩

end Go.Proofs.Ytingaflikkeefaa.Sq
