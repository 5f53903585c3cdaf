/- What the laws' arguments are, once read: sizes and lengths within bounds, all the way down. -/
import Derived.Test.YtmelflbbeecjfaaXBx0
import Derived.Test.YtmelflbbeecjfaaOpens
namespace Go.Proofs.Ytmelflbbeecjfaa.XB
open Go.RowKit Go.Proofs.YtmelflbbeecjfaaW.PrintWords Go.Proofs.YtmelflbbeecjfaaW.PrintLast Go.Proofs.Ytmelflbbeecjfaa.Opens
set_option linter.unusedVariables false
inductive Ok25 : S25 → Prop
  | mk (x : S25) (h0 : (Lit.int .i64 x.f0).wf = true) (h1 : (Lit.int .i64 x.f1).wf = true) (h2 : x.f2.size ≤ maxLen) (h3 : x.f3.length ≤ maxLen) (h4 : ∀ s ∈ x.f3, s.size ≤ maxLen) (h5 : x.f4.length ≤ maxLen) (h6 : ∀ z ∈ x.f4, Ok25 z) : Ok25 x
theorem opens25 {H : Type} {enc : TypeId × Value → H} {w : World} (fuel : Nat) : Opens enc Try.prog w fuel 25 k25 Ok25 :=
  opens_fix (F := F25) mono25 (fun n ih => by
    refine opens_imp (opens_iso (fun x : S25 => (x.f0, x.f1, x.f2, x.f3, x.f4)) (fun p => ⟨p.1, p.2.1, p.2.2.1, p.2.2.2.1, p.2.2.2.2⟩) (fun _ => rfl) (opens_struct5 Try.underlying25 (by kernel_rfl) (by kernel_rfl) (fun m hm => opens_int Try.underlying3) (fun m hm => opens_int Try.underlying3) (fun m hm => opens_string Try.underlying9) (fun m hm => opens_slice Try.underlying22 (by kernel_rfl) (fun _ _ => opens_string Try.underlying9)) (fun m hm => opens_slice Try.underlying23 (by rw [sz25]; kernel_rfl) (fun j hj => ih j (by omega) _ rfl)))) (fun _ _ h => h) ?_
    intro v hv
    exact ⟨v, hv.1, hv.2.1, hv.2.2.1, hv.2.2.2.1.1, hv.2.2.2.1.2, hv.2.2.2.2.1, hv.2.2.2.2.2⟩) fuel
inductive Ok39 : S39 → Prop
  | mk (x : S39) (h0 : (Lit.int .i64 x.f0).wf = true) (h1 : x.f1.length ≤ maxLen) (h2 : ∀ s ∈ x.f1, s.size ≤ maxLen) (h3 : x.f2.length ≤ maxLen) (h4 : ∀ z ∈ x.f2, Ok39 z) : Ok39 x
theorem opens39 {H : Type} {enc : TypeId × Value → H} {w : World} (fuel : Nat) : Opens enc Try.prog w fuel 39 k39 Ok39 :=
  opens_fix (F := F39) mono39 (fun n ih => by
    refine opens_imp (opens_iso (fun x : S39 => (x.f0, x.f1, x.f2)) (fun p => ⟨p.1, p.2.1, p.2.2⟩) (fun _ => rfl) (opens_struct3 Try.underlying39 (by kernel_rfl) (by kernel_rfl) (fun m hm => opens_int Try.underlying3) (fun m hm => opens_slice Try.underlying22 (by kernel_rfl) (fun _ _ => opens_string Try.underlying9)) (fun m hm => opens_slice Try.underlying37 (by rw [sz39]; kernel_rfl) (fun j hj => ih j (by omega) _ rfl)))) (fun _ _ h => h) ?_
    intro v hv
    exact ⟨v, hv.1, hv.2.1.1, hv.2.1.2, hv.2.2.1, hv.2.2.2⟩) fuel
end Go.Proofs.Ytmelflbbeecjfaa.XB
