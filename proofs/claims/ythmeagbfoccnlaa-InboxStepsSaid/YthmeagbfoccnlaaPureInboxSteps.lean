/- The law InboxSteps: nothing is left to show in plain words. -/
import Derived.Test.YthmeagbfoccnlaaRdInboxSteps
import Derived.Test.YthmeagbfoccnlaaHInboxSteps
namespace Go.Proofs.Ythmeagbfoccnlaa.inboxSteps
open Go.RowKit Go.Proofs.Ythmeagbfoccnlaa.FA Go.Proofs.YthmeagbfoccnlaaW.PrintWords Go.Proofs.Ythmeagbfoccnlaa.Rd Go.Proofs.Ythmeagbfoccnlaa.B
set_option linter.unusedVariables false
theorem pure_InboxSteps : ∀ (a0 : Int) (o0 : r3.ok a0) (a1 : (List S30)) (o1 : r22.ok a1) (w0 : r3.wt a0) (w1 : r22.wt a1), ∃ k, sextonlaw23_InboxSteps.f k a0 a1 = some true := by
  intro a0 o0 a1 o1 w0 w1
  exact ⟨0, rfl⟩
end Go.Proofs.Ythmeagbfoccnlaa.inboxSteps
