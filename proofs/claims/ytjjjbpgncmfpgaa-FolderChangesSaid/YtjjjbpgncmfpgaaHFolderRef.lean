/- Written by hand: sextonlaw10.ref: the reference's folder bears the entries that came in. -/
import Derived.Test.YtjjjbpgncmfpgaaHand
import Derived.Test.YtjjjbpgncmfpgaaB
import Derived.Test.YtjjjbpgncmfpgaaFAx0
import Derived.Outline
namespace Go.Proofs.Ytjjjbpgncmfpgaa.FA
open Go.RowKit Go.Proofs.YtjjjbpgncmfpgaaW.PrintWords Go.Proofs.YtjjjbpgncmfpgaaW.PrintLast Go.Proofs.YtjjjbpgncmfpgaaW.PrintMore Go.Proofs.Ytjjjbpgncmfpgaa.Hand Go.Proofs.Ytjjjbpgncmfpgaa.B
set_option linter.unusedVariables false
set_option linter.unusedSimpArgs false
def sextonlaw10_ref.f (l0_0 : List S30) (a0_1 : Int) : Option (List S30 × Int) := some (l0_0, a0_1)
set_option maxHeartbeats 1000000 in
theorem sextonlaw10_ref.calls (A0_0 : Option Addr) (c0_0 n : Nat) (a0_1 : Int) (w : World) :
    Calls Try.prog 19 #[.agg #[.slice A0_0 n c0_0, .int .i64 a0_1]] w fun e w' => e = .returned (.agg #[.slice A0_0 n c0_0, .int .i64 a0_1]) ∧ Below w.heap.size w w' := by
  go_enter Try.func19, Try.ntmps19
  go_wp2_with (fail)
  have hbk : ((w.alloc (Obj.cells #[Value.slice A0_0 n c0_0, Value.int IntKind.i64 a0_1] 24)).alloc (Obj.cells #[Value.slice A0_0 n c0_0, Value.int IntKind.i64 a0_1] 44)).heap[w.heap.size + 1]? = some (.cells #[Value.slice A0_0 n c0_0, Value.int IntKind.i64 a0_1] 44 (0, 0)) := by
    simp only [World.alloc, Array.getElem?_push, Array.size_push]
    simp
  refine bodyPost_ret (results_c1 rfl _ _ (w.heap.size + 1) 44 #[.slice A0_0 n c0_0, .int .i64 a0_1] (0, 0) _ rfl hbk Try.underlying44 rfl (by kernel_rfl)) rfl ?_
  exact ⟨rfl, below_alloc (below_alloc (Below.refl _ _) _) _⟩
end Go.Proofs.Ytjjjbpgncmfpgaa.FA
