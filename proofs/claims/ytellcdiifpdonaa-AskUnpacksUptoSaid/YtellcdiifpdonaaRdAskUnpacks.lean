/- The readings of the parameters of the law AskUnpacks. -/
import Derived.Test.YtellcdiifpdonaaRead
import Derived.Test.YtellcdiifpdonaaFAsextonlaw13AskUnpacks
namespace Go.Proofs.Ytellcdiifpdonaa.askUnpacks
open Go.RowKit Go.Proofs.Ytellcdiifpdonaa.FA Go.Proofs.YtellcdiifpdonaaW.PrintWords Go.Proofs.Ytellcdiifpdonaa.Rd
def r9 : Rdg Try.prog ByteArray := Rd.string 9 Try.underlying9 (by kernel_rfl)
def r3 : Rdg Try.prog Int := Rd.int 3 .i64 Try.underlying3 (by kernel_rfl)
end Go.Proofs.Ytellcdiifpdonaa.askUnpacks
