/- The law InboxOnce: nothing is left to show in plain words. -/
import Derived.Test.YthmeagbfoccnlaaRdInboxOnce
import Derived.Test.YthmeagbfoccnlaaHInboxOnce
namespace Go.Proofs.Ythmeagbfoccnlaa.inboxOnce
open Go.RowKit Go.Proofs.Ythmeagbfoccnlaa.FA Go.Proofs.YthmeagbfoccnlaaW.PrintWords Go.Proofs.Ythmeagbfoccnlaa.Rd Go.Proofs.Ythmeagbfoccnlaa.B
set_option linter.unusedVariables false
theorem pure_InboxOnce : ∀ (a0 : (List S30)) (o0 : r22.ok a0) (w0 : r22.wt a0), ∃ k, sextonlaw23_InboxOnce.f k a0 = some true := by
  intro a0 o0 w0
  exact ⟨0, rfl⟩
end Go.Proofs.Ythmeagbfoccnlaa.inboxOnce
