/- Each number as bytes, or why it is none: the program and the document's answer tell alike. -/
import Derived.Test.YtnpgplgbnmphdaaRdTlvNums
import Derived.Test.YtnpgplgbnmphdaaNumFns
import Derived.Test.YtnpgplgbnmphdaaSmall
namespace Go.Proofs.Ytnpgplgbnmphdaa.tlvNums
open Go.RowKit Go.Proofs.Ytnpgplgbnmphdaa.FA Go.Proofs.YtnpgplgbnmphdaaW.PrintWords Go.Proofs.Ytnpgplgbnmphdaa.Rd Go.Proofs.Ytnpgplgbnmphdaa.B Go.Proofs.Ytnpgplgbnmphdaa.TlvFns
set_option linter.unusedVariables false
theorem pure_TlvNums : ∀ (a0 : Int) (o0 : r3.ok a0) (a1 : Int) (o1 : r3.ok a1) (w0 : r3.wt a0) (w1 : r3.wt a1), ∃ k, sextonlaw01_TlvNums.f k a0 a1 = some true := by
  intro n o0 size _ _ _
  have hn := (wf_i64 o0).2
  refine ⟨12, ?_⟩
  unfold sextonlaw01_TlvNums.f
  rw [num_is n size hn 12 (by decide), ref_num_is n size hn 12 (by decide), small_is 12 (by decide)]
  simp
end Go.Proofs.Ytnpgplgbnmphdaa.tlvNums
