/- The law of the nil log: nothing is left to show in plain words. -/
import Derived.Test.YtmapkneofccboaaRdOplogNil
import Derived.Test.YtmapkneofccboaaHOplogNil
namespace Go.Proofs.Ytmapkneofccboaa.oplogNil
open Go.RowKit Go.Proofs.Ytmapkneofccboaa.FA Go.Proofs.YtmapkneofccboaaW.PrintWords Go.Proofs.Ytmapkneofccboaa.Rd Go.Proofs.Ytmapkneofccboaa.B
set_option linter.unusedVariables false
theorem pure_OplogNil : ∀ (a0 : Int) (o0 : r3.ok a0) (a1 : S30) (o1 : r30.ok a1) (w0 : r3.wt a0) (w1 : r30.wt a1), ∃ k, sextonlaw05_OplogNil.f k a0 a1.f0 a1.f1 a1.f2 a1.f3 = some true := by
  intro a0 o0 a1 o1 w0 w1
  exact ⟨0, rfl⟩
end Go.Proofs.Ytmapkneofccboaa.oplogNil
