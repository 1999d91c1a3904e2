/- The readings of the parameters of the law InboxNil. -/
import Derived.Test.YthmeagbfoccnlaaRead
import Derived.Test.YthmeagbfoccnlaaHInboxNil
namespace Go.Proofs.Ythmeagbfoccnlaa.inboxNil
open Go.RowKit Go.Proofs.Ythmeagbfoccnlaa.FA Go.Proofs.YthmeagbfoccnlaaW.PrintWords Go.Proofs.Ythmeagbfoccnlaa.Rd
def r4 : Rdg Try.prog Bool := Rd.bool 4 Try.underlying4 (by kernel_rfl)
def r9 : Rdg Try.prog ByteArray := Rd.string 9 Try.underlying9 (by kernel_rfl)
end Go.Proofs.Ythmeagbfoccnlaa.inboxNil
