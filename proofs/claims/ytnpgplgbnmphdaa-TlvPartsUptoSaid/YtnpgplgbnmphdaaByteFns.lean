/- A text of one byte. -/
import Derived.Test.YtnpgplgbnmphdaaTlv
import Derived.Test.YtnpgplgbnmphdaaFAsextonref01Byte
namespace Go.Proofs.Ytnpgplgbnmphdaa.TlvFns
open Go.RowKit Go.Proofs.Ytnpgplgbnmphdaa.FA Go.Proofs.YtnpgplgbnmphdaaW.PrintWords Go.Proofs.YtnpgplgbnmphdaaW.PrintLast Go.Proofs.YtnpgplgbnmphdaaW.PrintMore Go.Proofs.Ytnpgplgbnmphdaa.B
set_option linter.unusedVariables false
set_option linter.unusedSimpArgs false
theorem byte_is (n : Int) (h0 : 0 ≤ n) (h1 : n < 256) : sextonref01_Byte.f n = some ⟨#[UInt8.ofNat n.toNat]⟩ := by
  unfold sextonref01_Byte.f
  rw [Int.emod_eq_of_lt h0 h1]
  rfl
end Go.Proofs.Ytnpgplgbnmphdaa.TlvFns
