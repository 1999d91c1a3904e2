/- The readings of the parameters of the law TlvAgain. -/
import Derived.Test.YtnpgplgbnmphdaaRead
import Derived.Test.YtnpgplgbnmphdaaFAsextonlaw01TlvAgain
namespace Go.Proofs.Ytnpgplgbnmphdaa.tlvAgain
open Go.RowKit Go.Proofs.Ytnpgplgbnmphdaa.FA Go.Proofs.YtnpgplgbnmphdaaW.PrintWords Go.Proofs.Ytnpgplgbnmphdaa.Rd
def r9 : Rdg Try.prog ByteArray := Rd.string 9 Try.underlying9 (by kernel_rfl)
def r3 : Rdg Try.prog Int := Rd.int 3 .i64 Try.underlying3 (by kernel_rfl)
end Go.Proofs.Ytnpgplgbnmphdaa.tlvAgain
