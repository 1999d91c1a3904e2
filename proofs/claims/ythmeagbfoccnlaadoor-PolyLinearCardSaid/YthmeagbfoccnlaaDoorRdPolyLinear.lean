/- The readings of the parameters of the law PolyLinear. -/
import Derived.Test.YthmeagbfoccnlaaDoorRead
import Derived.Test.YthmeagbfoccnlaaDoorFAsextonlaw02PolyLinear
namespace Go.Proofs.YthmeagbfoccnlaaDoor.polyLinear
open Go.RowKit Go.Proofs.YthmeagbfoccnlaaDoor.FA Go.Proofs.YthmeagbfoccnlaaDoorW.PrintWords Go.Proofs.YthmeagbfoccnlaaDoor.Rd
def r9 : Rdg Tryd.prog ByteArray := Rd.string 9 Tryd.underlying9 (by kernel_rfl)
end Go.Proofs.YthmeagbfoccnlaaDoor.polyLinear
