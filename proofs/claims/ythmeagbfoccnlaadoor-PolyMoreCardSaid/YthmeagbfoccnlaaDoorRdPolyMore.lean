/- The readings of the parameters of the law PolyMore. -/
import Derived.Test.YthmeagbfoccnlaaDoorRead
import Derived.Test.YthmeagbfoccnlaaDoorFAsextonlaw02PolyMore
namespace Go.Proofs.YthmeagbfoccnlaaDoor.polyMore
open Go.RowKit Go.Proofs.YthmeagbfoccnlaaDoor.FA Go.Proofs.YthmeagbfoccnlaaDoorW.PrintWords Go.Proofs.YthmeagbfoccnlaaDoor.Rd
def r3 : Rdg Tryd.prog Int := Rd.int 3 .i64 Tryd.underlying3 (by kernel_rfl)
def r9 : Rdg Tryd.prog ByteArray := Rd.string 9 Tryd.underlying9 (by kernel_rfl)
end Go.Proofs.YthmeagbfoccnlaaDoor.polyMore
