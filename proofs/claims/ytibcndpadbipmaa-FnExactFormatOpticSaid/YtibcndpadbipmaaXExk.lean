/- What the laws' arguments are, once read: sizes and lengths within bounds, all the way down. -/
import Derived.Test.YtibcndpadbipmaaXEx0
import Derived.Test.YtibcndpadbipmaaOpens
namespace Go.Proofs.Ytibcndpadbipmaa.XE
open Go.RowKit Go.Proofs.YtibcndpadbipmaaW.PrintWords Go.Proofs.YtibcndpadbipmaaW.PrintLast Go.Proofs.Ytibcndpadbipmaa.Opens
set_option linter.unusedVariables false
inductive Ok24 : S24 → Prop
  | mk (x : S24) (h0 : (Lit.int .i64 x.f0).wf = true) (h1 : x.f1.size ≤ maxLen) (h2 : (Lit.int .i64 x.f2).wf = true) (h3 : x.f3.length ≤ maxLen) (h4 : ∀ z ∈ x.f3, Ok24 z) : Ok24 x
theorem opens24 {H : Type} {enc : TypeId × Value → H} {w : World} (fuel : Nat) : Opens enc Try.prog w fuel 24 k24 Ok24 :=
  opens_fix (F := F24) mono24 (fun n ih => by
    refine opens_imp (opens_iso (fun x : S24 => (x.f0, x.f1, x.f2, x.f3)) (fun p => ⟨p.1, p.2.1, p.2.2.1, p.2.2.2⟩) (fun _ => rfl) (opens_struct4 Try.underlying24 (by kernel_rfl) (by kernel_rfl) (fun m hm => opens_int Try.underlying3) (fun m hm => opens_string Try.underlying9) (fun m hm => opens_int Try.underlying3) (fun m hm => opens_slice Try.underlying22 (by rw [sz24]; kernel_rfl) (fun j hj => ih j (by omega) _ rfl)))) (fun _ _ h => h) ?_
    intro v hv
    exact ⟨v, hv.1, hv.2.1, hv.2.2.1, hv.2.2.2.1, hv.2.2.2.2⟩) fuel
end Go.Proofs.Ytibcndpadbipmaa.XE
