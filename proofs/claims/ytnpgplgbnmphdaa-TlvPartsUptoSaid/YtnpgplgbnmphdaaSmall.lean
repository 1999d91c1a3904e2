/- The small case of the laws of layer 1. -/
import Derived.Test.YtnpgplgbnmphdaaNumFns
import Derived.Test.YtnpgplgbnmphdaaFAsextonlaw01small
namespace Go.Proofs.Ytnpgplgbnmphdaa.TlvFns
open Go.RowKit Go.Proofs.Ytnpgplgbnmphdaa.FA Go.Proofs.YtnpgplgbnmphdaaW.PrintWords Go.Proofs.YtnpgplgbnmphdaaW.PrintLast Go.Proofs.YtnpgplgbnmphdaaW.PrintMore Go.Proofs.Ytnpgplgbnmphdaa.B
set_option linter.unusedVariables false
set_option linter.unusedSimpArgs false
theorem small_is (k : Nat) (hk : 12 ≤ k) : sextonlaw01_small.f k = some true := by
  unfold sextonlaw01_small.f
  rw [num_is 258 2 (by decide) k hk]
  simp only [Option.bind_some]
  have e : numVal 258 2 = (⟨#[1, 2]⟩, 0) := by decide
  rw [e, if_pos rfl, Lib.toList_data]
  rfl
end Go.Proofs.Ytnpgplgbnmphdaa.TlvFns
