/- A nil assembler gathers nothing: the walk says it all. -/
import Derived.Test.YtoclacnhckpkfaaDoorRdShardNil
namespace Go.Proofs.YtoclacnhckpkfaaDoor.shardNil
open Go.RowKit Go.Proofs.YtoclacnhckpkfaaDoor.FA Go.Proofs.YtoclacnhckpkfaaDoorW.PrintWords Go.Proofs.YtoclacnhckpkfaaDoor.Rd Go.Proofs.YtoclacnhckpkfaaDoor.B
set_option linter.unusedVariables false
theorem pure_ShardNil : ∀ (a0 : S36) (o0 : r36.ok a0) (w0 : r36.wt a0), sextonlaw19_ShardNil.f a0.f0 a0.f1 a0.f2 a0.f3 = some true := fun _ _ _ => rfl
end Go.Proofs.YtoclacnhckpkfaaDoor.shardNil
