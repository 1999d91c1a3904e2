/- A text of one byte. -/
import Derived.Test.YtfelpemelohggaaTlv
import Derived.Test.YtfelpemelohggaaFAsextonref01Byte
namespace Go.Proofs.Ytfelpemelohggaa.TlvFns
open Go.RowKit Go.Proofs.Ytfelpemelohggaa.FA Go.Proofs.YtfelpemelohggaaW.PrintWords Go.Proofs.YtfelpemelohggaaW.PrintLast Go.Proofs.YtfelpemelohggaaW.PrintMore Go.Proofs.Ytfelpemelohggaa.B
set_option linter.unusedVariables false
set_option linter.unusedSimpArgs false
theorem byte_is (n : Int) (h0 : 0 ≤ n) (h1 : n < 256) : sextonref01_Byte.f n = some ⟨#[UInt8.ofNat n.toNat]⟩ := by
  unfold sextonref01_Byte.f
  rw [Int.emod_eq_of_lt h0 h1]
  rfl
end Go.Proofs.Ytfelpemelohggaa.TlvFns
