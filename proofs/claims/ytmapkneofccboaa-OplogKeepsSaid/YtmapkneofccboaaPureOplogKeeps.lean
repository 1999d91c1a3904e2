/- The law OplogKeeps: nothing is left to show in plain words. -/
import Derived.Test.YtmapkneofccboaaRdOplogKeeps
import Derived.Test.YtmapkneofccboaaHOplogKeeps
namespace Go.Proofs.Ytmapkneofccboaa.oplogKeeps
open Go.RowKit Go.Proofs.Ytmapkneofccboaa.FA Go.Proofs.YtmapkneofccboaaW.PrintWords Go.Proofs.Ytmapkneofccboaa.Rd Go.Proofs.Ytmapkneofccboaa.B
set_option linter.unusedVariables false
theorem pure_OplogKeeps : ∀ (a0 : (List S32)) (o0 : r22.ok a0) (w0 : r22.wt a0), ∃ k, sextonlaw05_OplogKeeps.f k a0 = some true := by
  intro a0 o0 w0
  exact ⟨0, rfl⟩
end Go.Proofs.Ytmapkneofccboaa.oplogKeeps
