/- The law of the nil inbox: nothing is left to show in plain words. -/
import Derived.Test.YthmeagbfoccnlaaRdInboxNil
import Derived.Test.YthmeagbfoccnlaaHInboxNil
namespace Go.Proofs.Ythmeagbfoccnlaa.inboxNil
open Go.RowKit Go.Proofs.Ythmeagbfoccnlaa.FA Go.Proofs.YthmeagbfoccnlaaW.PrintWords Go.Proofs.Ythmeagbfoccnlaa.Rd Go.Proofs.Ythmeagbfoccnlaa.B
set_option linter.unusedVariables false
theorem pure_InboxNil : ∀ (a0 : Bool) (o0 : r4.ok a0) (a1 : ByteArray) (o1 : r9.ok a1) (w0 : r4.wt a0) (w1 : r9.wt a1), ∃ k, sextonlaw23_InboxNil.f k a0 a1 = some true := by
  intro a0 o0 a1 o1 w0 w1
  exact ⟨0, rfl⟩
end Go.Proofs.Ythmeagbfoccnlaa.inboxNil
