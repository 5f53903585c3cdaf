/- What the laws' arguments are, once read: sizes and lengths within bounds, all the way down. -/
import Derived.Test.YtingaflikkeefaaXAx0
import Derived.Test.YtingaflikkeefaaOpens
namespace Go.Proofs.Ytingaflikkeefaa.XA
open Go.RowKit Go.Proofs.YtingaflikkeefaaW.PrintWords Go.Proofs.YtingaflikkeefaaW.PrintLast Go.Proofs.Ytingaflikkeefaa.Opens
set_option linter.unusedVariables false
inductive Ok25 : S25 → Prop
  | mk (x : S25) (h0 : (Lit.int .i64 x.f0).wf = true) (h1 : x.f1.length ≤ maxLen) (h2 : ∀ s ∈ x.f1, s.size ≤ maxLen) (h3 : x.f2.length ≤ maxLen) (h4 : ∀ z ∈ x.f2, Ok25 z) : Ok25 x
theorem opens25 {H : Type} {enc : TypeId × Value → H} {w : World} (fuel : Nat) : Opens enc Try.prog w fuel 25 k25 Ok25 :=
  opens_fix (F := F25) mono25 (fun n ih => by
    refine opens_imp (opens_iso (fun x : S25 => (x.f0, x.f1, x.f2)) (fun p => ⟨p.1, p.2.1, p.2.2⟩) (fun _ => rfl) (opens_struct3 Try.underlying25 (by kernel_rfl) (by kernel_rfl) (fun m hm => opens_int Try.underlying3) (fun m hm => opens_slice Try.underlying22 (by kernel_rfl) (fun _ _ => opens_string Try.underlying9)) (fun m hm => opens_slice Try.underlying23 (by rw [sz25]; kernel_rfl) (fun j hj => ih j (by omega) _ rfl)))) (fun _ _ h => h) ?_
    intro v hv
    exact ⟨v, hv.1, hv.2.1.1, hv.2.1.2, hv.2.2.1, hv.2.2.2⟩) fuel
end Go.Proofs.Ytingaflikkeefaa.XA
