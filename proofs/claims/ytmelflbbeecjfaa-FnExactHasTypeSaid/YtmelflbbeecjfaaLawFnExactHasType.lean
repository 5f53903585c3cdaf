/- The row of the law laws_FnExactHasType, written by myprint.py, a program of this session: every argument is opened as a kind of the printed words, and the printed walk is called. -/
import Derived.Test.YtmelflbbeecjfaaRows
import Derived.Test.YtmelflbbeecjfaaXBx18
import Derived.Test.YtmelflbbeecjfaaXBxk
import Derived.Test.YtmelflbbeecjfaaPureFnExactHasType
import Derived.WalkKit
import Derived.ProofKit
import Derived.OpenShut
import Derived.ShutString
import Derived.ChangeOld
import Derived.Below
import Derived.SizedLaws
namespace Go.Proofs.Ytmelflbbeecjfaa.fnExactHasType
open Go.ChangeShapes Go.WideShapes Go.ChangeAt Go.RowKit Go.Proofs.YtmelflbbeecjfaaW.PrintWords Go.Proofs.Ytmelflbbeecjfaa.Opens Go.Proofs.Ytmelflbbeecjfaa.XB
open Go.ChangeMaps (open_string shut_string)
set_option linter.unusedVariables false
theorem own : ownKnob Try.prog.godebug = none := by kernel_rfl
theorem laidOut : laidOutB Try.prog = true := by kernel_rfl
set_option maxRecDepth 100000 in
theorem lifted (os : Os) (started : os.Started) (H : Type) (enc : TypeId × Value → H) :
    ReturnsInHanded {} Try.checked os 8 .any (Rows.fnExactHasTypeSpec.pre6 enc Try.prog Try.f8 Rows.fnExactHasTypeRow.domain false) (Rows.fnExactHasTypeSpec.post enc Try.prog Try.f8 false true false false) := by
  refine returnsInHanded_of_change_sized (C := Try.checked) own started (by kernel_rfl) Try.func8
    (ChangeSpec.witness6 (enc := enc) (C := Try.checked) false ⟨#[], #[.agg #[.int .i64 0, .int .i64 0, .string ByteArray.empty, .slice none 0 0, .slice none 0 0], .agg #[.int .i64 0, .slice none 0 0, .slice none 0 0]], []⟩ 8 (by kernel_rfl) (by kernel_rfl) (by kernel_rfl) (by kernel_rfl)) ?_
  intro W base args ds gs before hval0 hW hcnd hsz0 _
  have hsz : (DataW.weightsEach Try.prog (Try.f8.params.toList ++ Rows.fnExactHasTypeSpec.plain.varTypes Try.prog) (ds ++ gs)).all (· ≤ reachBytes) = true := hsz0
  have hval : ∀ (j : Nat) t v, Try.f8.params[j]? = some t → args[j]? = some v → Value.okWide Try.prog W .any base t v := hval0
  have hW' := hW
  obtain ⟨p, q, hA0, hV, rfl, hfz, hnd⟩ := hW
  have hA : DataW.TrodAll enc Try.prog W 0 (fun _ => true) true Try.f8.params.toList args.toList ds p := hA0
  rw [Try.params8] at hA hval hsz
  obtain ⟨v0, vs0, d0, ds0, p0, q0, hargs, rfl, rfl, h0, r0⟩ := trodAll_cons hA
  obtain ⟨v1, vs1, d1, ds1, p1, q1, rfl, rfl, rfl, h1, r1⟩ := trodAll_cons r0
  obtain ⟨rfl, rfl, rfl⟩ := trodAll_nil r1
  obtain rfl : args = #[v0, v1] := by cases args; simp_all
  obtain ⟨rfl, rfl⟩ := trodVars_none hV
  obtain ⟨cs0, rfl, hcs0⟩ := okWide_struct Try.underlying24 (hval 0 25 v0 rfl rfl)
  have k0 := h0
  have lt0 : ∀ x ∈ p0, x.block < W.heap.size := by obtain ⟨m, hm⟩ := k0; exact DataW.trod_lt m _ _ _ hm
  obtain ⟨fuel0, hf0⟩ := h0
  obtain ⟨x0, hk0, ok0⟩ := opens25 fuel0 _ _ hf0
  obtain ⟨A0_3, c0_3, A0_4, c0_4, he0, hl0_3, hc0_3, hl0_4, hc0_4⟩ := k25_open hk0
  have he0' : cs0 = #[.int .i64 x0.f0, .int .i64 x0.f1, .string x0.f2, .slice A0_3 x0.f3.length c0_3, .slice A0_4 x0.f4.length c0_4] := by have h_ := congrArg List.toArray (show cs0.toList = _ from he0); rwa [Array.toArray_toList] at h_
  subst he0'
  obtain ⟨cs1, rfl, hcs1⟩ := okWide_struct Try.underlying38 (hval 1 39 v1 rfl rfl)
  have k1 := h1
  have lt1 : ∀ x ∈ p1, x.block < W.heap.size := by obtain ⟨m, hm⟩ := k1; exact DataW.trod_lt m _ _ _ hm
  obtain ⟨fuel1, hf1⟩ := h1
  obtain ⟨x1, hk1, ok1⟩ := opens39 fuel1 _ _ hf1
  obtain ⟨A1_1, c1_1, A1_2, c1_2, he1, hl1_1, hc1_1, hl1_2, hc1_2⟩ := k39_open hk1
  have he1' : cs1 = #[.int .i64 x1.f0, .slice A1_1 x1.f1.length c1_1, .slice A1_2 x1.f2.length c1_2] := by have h_ := congrArg List.toArray (show cs1.toList = _ from he1); rwa [Array.toArray_toList] at h_
  subst he1'
  clear hA0 hval0 hsz0 hsz
  obtain ⟨k, hP⟩ := Pure.FnExactHasType x0 ok0 x1 ok1
  refine (laws_FnExactHasType.calls k x0.f0 x0.f1 x0.f2 _ _ x0.f3 _ _ x0.f4 x1.f0 _ _ x1.f1 _ _ x1.f2 true W hc0_3 hl0_3 hc0_4 hl0_4 hc1_1 hl1_1 hc1_2 hl1_2 hP).mono fun e W' ⟨he, bel0⟩ => ?_
  have bel : Below W.heap.size W W' := bel0
  subst he
  exact ⟨_, rfl, _, _, _, [], _, [], hW', trodAll_mk1 (shut_bool Try.underlying4 _), (trodAll_cons_mk (Below.trod laidOut (by kernel_rfl) (of_decide_eq_true (by kernel_rfl)) k0 bel lt0) (trodAll_cons_mk (Below.trod laidOut (by kernel_rfl) (of_decide_eq_true (by kernel_rfl)) k1 bel lt1) trodAll_mk0)), rfl, bel.frame _, fun h => by cases h⟩
theorem over : Rows.fnExactHasTypeRow.holds Try.pinned (OpenSpec.ofChange Rows.fnExactHasTypeSpec) :=
  OpenClaim.holds_of_wide 8 Try.f8 rfl rfl rfl rfl rfl rfl rfl ⟨rfl, rfl, rfl, rfl, rfl⟩ rfl rfl rfl rfl rfl (by kernel_rfl) Try.func8 (by kernel_rfl)
    (of_decide_eq_true (by kernel_rfl)) (by unfold Func.isWrapper; first | (rw [if_pos (by decide +kernel)]; kernel_rfl) | (rw [if_neg (by decide +kernel)]; exact ⟨rfl, rfl⟩))
    (fun os started H enc _ => lifted os started H enc)
theorem proved : Rows.FnExactHasTypeSaid := over
#print axioms proved
end Go.Proofs.Ytmelflbbeecjfaa.fnExactHasType
namespace Go.Proofs.Ytmelflbbeecjfaa
/-- The row, under a short name, for the claim. -/
theorem fnExactHasType_holds : Rows.FnExactHasTypeSaid := fnExactHasType.proved
end Go.Proofs.Ytmelflbbeecjfaa
