/- Every sum: the program's, half a byte at a time by a table, and the document's, bit by bit. -/
import Derived.Test.YthmeagbfoccnlaaDoorRdPolySums
import Derived.Test.YthmeagbfoccnlaaDoorPolyLaws
namespace Go.Proofs.YthmeagbfoccnlaaDoor.polySums
open Go.RowKit Go.Proofs.YthmeagbfoccnlaaDoor.FA Go.Proofs.YthmeagbfoccnlaaDoorW.PrintWords Go.Proofs.YthmeagbfoccnlaaDoor.Rd Go.Proofs.YthmeagbfoccnlaaDoor.B
set_option linter.unusedVariables false
theorem pure_PolySums : ∀ (a0 : ByteArray) (o0 : r9.ok a0) (w0 : r9.wt a0), ∃ k, sextonlaw02_PolySums.f k a0 = some true := by
  intro s _ w
  have hs : s.size ≤ 140737488351232 := w
  refine ⟨s.size + 10, ?_⟩
  unfold sextonlaw02_PolySums.f
  rw [sum_is s (by omega) _ (by omega), ref_sum_is s (by omega) _ (by omega)]
  simp only [Option.bind_some]
  rw [if_pos trivial, nine_is _ (by omega)]
  rfl
end Go.Proofs.YthmeagbfoccnlaaDoor.polySums
