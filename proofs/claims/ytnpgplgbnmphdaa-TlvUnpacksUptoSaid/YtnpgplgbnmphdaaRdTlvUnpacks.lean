/- The readings of the parameters of the law TlvUnpacks. -/
import Derived.Test.YtnpgplgbnmphdaaRead
import Derived.Test.YtnpgplgbnmphdaaFAsextonlaw01TlvUnpacks
namespace Go.Proofs.Ytnpgplgbnmphdaa.tlvUnpacks
open Go.RowKit Go.Proofs.Ytnpgplgbnmphdaa.FA Go.Proofs.YtnpgplgbnmphdaaW.PrintWords Go.Proofs.Ytnpgplgbnmphdaa.Rd
def r9 : Rdg Try.prog ByteArray := Rd.string 9 Try.underlying9 (by kernel_rfl)
end Go.Proofs.Ytnpgplgbnmphdaa.tlvUnpacks
