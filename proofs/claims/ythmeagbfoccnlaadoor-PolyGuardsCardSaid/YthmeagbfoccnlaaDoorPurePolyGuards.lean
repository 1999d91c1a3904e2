/- What is guarded, and what is unguarded of any bytes. -/
import Derived.Test.YthmeagbfoccnlaaDoorRdPolyGuards
import Derived.Test.YthmeagbfoccnlaaDoorPolyLaws
namespace Go.Proofs.YthmeagbfoccnlaaDoor.polyGuards
open Go.RowKit Go.Proofs.YthmeagbfoccnlaaDoor.FA Go.Proofs.YthmeagbfoccnlaaDoorW.PrintWords Go.Proofs.YthmeagbfoccnlaaDoor.Rd Go.Proofs.YthmeagbfoccnlaaDoor.B
set_option linter.unusedVariables false
theorem pure_PolyGuards : ∀ (a0 : ByteArray) (o0 : r9.ok a0) (w0 : r9.wt a0), ∃ k, sextonlaw02_PolyGuards.f k a0 = some true := by
  intro s _ w
  have hs : s.size ≤ 140737488351232 := w
  have hz : (guardV s).size = s.size + 4 := by
    rw [← len_eq, guard_list, List.length_append, len_eq]
    rfl
  refine ⟨s.size + 20, ?_⟩
  unfold sextonlaw02_PolyGuards.f
  rw [unguard_is s (by omega) _ (by omega), ref_unguard_is s (by omega) _ (by omega), guard_is s (by omega) _ (by omega)]
  simp only [Option.bind_some]
  rw [unguard_is (guardV s) (by omega) _ (by omega), ref_guard_is s (by omega) _ (by omega)]
  simp only [Option.bind_some]
  rw [unguard_guard, if_pos trivial, if_pos trivial, if_pos trivial, if_pos rfl, if_pos rfl, nine_is _ (by omega)]
  rfl
end Go.Proofs.YthmeagbfoccnlaaDoor.polyGuards
