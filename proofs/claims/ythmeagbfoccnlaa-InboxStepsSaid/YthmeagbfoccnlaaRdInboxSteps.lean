/- The readings of the parameters of the law InboxSteps. -/
import Derived.Test.YthmeagbfoccnlaaRead
import Derived.Test.YthmeagbfoccnlaaHInboxSteps
namespace Go.Proofs.Ythmeagbfoccnlaa.inboxSteps
open Go.RowKit Go.Proofs.Ythmeagbfoccnlaa.FA Go.Proofs.YthmeagbfoccnlaaW.PrintWords Go.Proofs.Ythmeagbfoccnlaa.Rd
def r3 : Rdg Try.prog Int := Rd.int 3 .i64 Try.underlying3 (by kernel_rfl)
def r9 : Rdg Try.prog ByteArray := Rd.string 9 Try.underlying9 (by kernel_rfl)
instance : Inhabited S30 := ⟨z30⟩
def r30 : Rdg Try.prog S30 := Rd.struct 30 Try.underlying30 (by kernel_rfl) (Rd.cons r3 _ rfl (by decide) rfl rfl rfl (Rd.last r9 _ rfl rfl rfl rfl rfl)) (fun x => (x.f0, x.f1)) (fun p => ⟨p.1, p.2⟩) (fun _ => rfl)
def r22 : Rdg Try.prog (List S30) := Rd.slice 22 r30 Try.underlying22 (by kernel_rfl)
end Go.Proofs.Ythmeagbfoccnlaa.inboxSteps
