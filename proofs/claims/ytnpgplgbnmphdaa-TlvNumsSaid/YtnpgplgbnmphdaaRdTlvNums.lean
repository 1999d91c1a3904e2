/- The readings of the parameters of the law TlvNums. -/
import Derived.Test.YtnpgplgbnmphdaaRead
import Derived.Test.YtnpgplgbnmphdaaFAsextonlaw01TlvNums
namespace Go.Proofs.Ytnpgplgbnmphdaa.tlvNums
open Go.RowKit Go.Proofs.Ytnpgplgbnmphdaa.FA Go.Proofs.YtnpgplgbnmphdaaW.PrintWords Go.Proofs.Ytnpgplgbnmphdaa.Rd
def r3 : Rdg Try.prog Int := Rd.int 3 .i64 Try.underlying3 (by kernel_rfl)
end Go.Proofs.Ytnpgplgbnmphdaa.tlvNums
